-- Written by programs of this session (wip/gen/gen.py, put.py) out of Lean's print of the loaded program; Lean checks it.
import Derived.Test.YtbopiacjioedeaaP0
import Derived.Test.YtbopiacjioedeaaSq2
namespace Go.Proofs.Ytbopiacjioedeaa.P
open Go.RowKit Go.Proofs.YtbopiacjioedeaaW.PrintWords Go.Proofs.YtbopiacjioedeaaW.PrintLast Go.Proofs.YtbopiacjioedeaaW.PrintMore
attribute [local go_sem] max2_int min2_int max_two min_two max_three min_three max_four min_four IntKind.wrap_u8 IntKind.wrap_u32 w64_256 w64_u32
set_option maxHeartbeats 8000000
set_option maxRecDepth 100000
set_option linter.unusedVariables false
set_option linter.unusedSimpArgs false
/-! ### spec_l1Put: function 54 -/
def spec_l1Put.l0 : Nat → List ByteArray → ByteArray → Int → Option (List ByteArray)
 | 0, _, _, _ => none
 | k + 1, x0, x1, x5 => if x5 < (x0.length : Int) then (if 0 ≤ x5 then (if (Op.bytesLess ((rdOf ByteArray.empty x0 x5).toList) x1.toList) = true then (spec_l1Put.l0 k x0 x1 (wrap64 (x5 + 1))) else (if (rdOf ByteArray.empty x0 x5).toList = x1.toList then (some x0) else ((some (([] : List ByteArray) : List ByteArray)).bind fun y115 => (if x5 ≤ (x0.length : Int) then (if y115.length + (x0.take (x5 : Int).toNat).length < 8796093022208 then ((some (y115 ++ (x0.take (x5 : Int).toNat) : List ByteArray)).bind fun y119 => ((some (([x1] : List ByteArray) : List ByteArray)).bind fun y122 => (if y119.length + y122.length < 8796093022208 then ((some (y119 ++ y122 : List ByteArray)).bind fun y125 => (if y125.length + (x0.drop (x5 : Int).toNat).length < 8796093022208 then (some (y125 ++ (x0.drop (x5 : Int).toNat))) else (none))) else (none)))) else (none)) else (none))))) else (none)) else ((some (([] : List ByteArray) : List ByteArray)).bind fun y132 => (if 0 ≤ x5 then (if x5 ≤ (x0.length : Int) then (if y132.length + (x0.take (x5 : Int).toNat).length < 8796093022208 then ((some (y132 ++ (x0.take (x5 : Int).toNat) : List ByteArray)).bind fun y136 => ((some (([x1] : List ByteArray) : List ByteArray)).bind fun y139 => (if y136.length + y139.length < 8796093022208 then ((some (y136 ++ y139 : List ByteArray)).bind fun y142 => (if y142.length + (x0.drop (x5 : Int).toNat).length < 8796093022208 then (some (y142 ++ (x0.drop (x5 : Int).toNat))) else (none))) else (none)))) else (none)) else (none)) else (none)))
def spec_l1Put.f (k : Nat) (l0 : List ByteArray) (a1 : ByteArray) : Option (List ByteArray) := spec_l1Put.l0 k l0 a1 0
theorem spec_l1Put.mono_l : ∀ k, (∀ y0 y1 y2, LeO (spec_l1Put.l0 k y0 y1 y2) (spec_l1Put.l0 (k + 1) y0 y1 y2))
 | 0 => fun _ _ _ r h => by simp [spec_l1Put.l0] at h
 | k + 1 => by
  have ih0 := spec_l1Put.mono_l k
  · intro y0 y1 y2
    unfold spec_l1Put.l0
    exact mn_
theorem spec_l1Put.mono : ∀ a0 a1 k, LeO (spec_l1Put.f k a0 a1) (spec_l1Put.f (k + 1) a0 a1) := by
 intro a0 a1 k
 have ih0 := spec_l1Put.mono_l k
 unfold spec_l1Put.f
 exact mn_
def spec_l1Put.T6 : Bool × List (List Nat × List Nat) := (true, [([], []), ([], []), ([], []), ([1, 2], [1, 2]), ([0, 3], [0, 3]), ([], []), ([5], [5]), ([4, 6, 4], [4, 6]), ([], []), ([], []), ([8, 9], [8, 9]), ([7, 10, 7], [7, 10]), ([11, 11, 0, 1, 2, 3, 4, 5, 6, 7, 8, 9, 10, 11], [11])])
def spec_l1Put.B6 : List Nat := [0, 0, 0, 6, 15, 0, 32, 127, 0, 0, 768, 2047, 4095]
theorem spec_l1Put.tab6 : rtab .any (opsOf Try.f54 6) = spec_l1Put.T6 := by kernel_rfl
theorem spec_l1Put.bits6 : waitsOk spec_l1Put.T6.2 spec_l1Put.B6 = true := by kernel_rfl
theorem spec_l1Put.callsC (k : Nat) (A0 : Option Addr) (c0 : Nat) (l0 : List ByteArray) (a1 : ByteArray) (r : List ByteArray) (w : World) (hr0 : Kd.C Kd.string w A0 l0.length l0) (hc0 : l0.length ≤ c0) (h : spec_l1Put.f k l0 a1 = some r) :
 Calls Try.prog 54 #[.slice A0 l0.length c0, .string a1] w fun e w' => ∃ v0_ : Value, e = .returned (v0_) ∧ ((v0_ = .slice A0 l0.length c0 ∧ r = l0) ∨ Kd.R Kd.string 9 w' w.heap.size (fun _ => True) v0_ r) ∧ Below w.heap.size w w' := by
 have HR0 := Aside0.mk hr0
 have HC0 := Aside0.mk hc0
 clear hr0 hc0
 have HB := Aside0.mk (Below.refl w.heap.size w)
 have H : (spec_l1Put.l0 k l0 a1 0) = some r := h
 clear h
 have H' := Aside0.mk H; clear H
 go_enter Try.func54, Try.ntmps54
 go_wp2
 go_loopg [5] k (fun kq v5 w' => ∃ (x5_1 : Int), v5 = .int .i64 x5_1 ∧ Aside0 (spec_l1Put.l0 kq l0 a1 x5_1 = some r) ∧ Aside0 (kq ≤ k) ∧ Aside0 (Below w.heap.size w w'))
 case atStart => exact ⟨(0), rf_, H', ⟨Nat.le_refl _⟩, ⟨bl_⟩⟩
 case round =>
  clear H'
  try clear p2
  obtain ⟨x5_1, rfl, HA, HK1, HB⟩ := hrel
  cases gk with
  | zero => exact absurd HA.out (by simp [spec_l1Put.l0])
  | succ k1 =>
   have H := HA.out
   clear HA
   simp only [spec_l1Put.l0] at H
   replace H := iudd_ H; rcases H with ⟨c3b0, H⟩ | ⟨c3b0, H⟩
   · obtain ⟨y132, hy_⟩ : ∃ y_ : List ByteArray, y_ = (([] : List ByteArray)) := ⟨_, rfl⟩
     replace H : (if 0 ≤ x5_1 then (if x5_1 ≤ (l0.length : Int) then (if y132.length + (l0.take (x5_1 : Int).toNat).length < 8796093022208 then ((some (y132 ++ (l0.take (x5_1 : Int).toNat) : List ByteArray)).bind fun y136 => ((some (([a1] : List ByteArray) : List ByteArray)).bind fun y139 => (if y136.length + y139.length < 8796093022208 then ((some (y136 ++ y139 : List ByteArray)).bind fun y142 => (if y142.length + (l0.drop (x5_1 : Int).toNat).length < 8796093022208 then (some (y142 ++ (l0.drop (x5_1 : Int).toNat))) else (none))) else (none)))) else (none)) else (none)) else (none)) = some r := ry_
     have Ny132 := Aside0.mk hy_; clear hy_
     replace H := inc_ H; obtain ⟨c31, H⟩ := H
     have c31b0 := eq_true c31
     have c31b1 : decide (0 ≤ x5_1) = true := decide_eq_true c31
     clear c31
     replace H := inc_ H; obtain ⟨c32, H⟩ := H
     have c32b0 := eq_true c32
     have c32b1 : decide (x5_1 ≤ (l0.length : Int)) = true := decide_eq_true c32
     clear c32
     replace H := inc_ H; obtain ⟨c33, H⟩ := H
     have LMc33 := Aside0.mk c33
     clear c33
     obtain ⟨y136, hy_⟩ : ∃ y_ : List ByteArray, y_ = (y132 ++ (l0.take (x5_1 : Int).toNat)) := ⟨_, rfl⟩
     replace H : ((some (([a1] : List ByteArray) : List ByteArray)).bind fun y139 => (if y136.length + y139.length < 8796093022208 then ((some (y136 ++ y139 : List ByteArray)).bind fun y142 => (if y142.length + (l0.drop (x5_1 : Int).toNat).length < 8796093022208 then (some (y142 ++ (l0.drop (x5_1 : Int).toNat))) else (none))) else (none))) = some r := ry_
     have Ny136 := Aside0.mk hy_; clear hy_
     obtain ⟨y139, hy_⟩ : ∃ y_ : List ByteArray, y_ = (([a1] : List ByteArray)) := ⟨_, rfl⟩
     replace H : (if y136.length + y139.length < 8796093022208 then ((some (y136 ++ y139 : List ByteArray)).bind fun y142 => (if y142.length + (l0.drop (x5_1 : Int).toNat).length < 8796093022208 then (some (y142 ++ (l0.drop (x5_1 : Int).toNat))) else (none))) else (none)) = some r := ry_
     have Ny139 := Aside0.mk hy_; clear hy_
     replace H := inc_ H; obtain ⟨c34, H⟩ := H
     have LMc34 := Aside0.mk c34
     clear c34
     obtain ⟨y142, hy_⟩ : ∃ y_ : List ByteArray, y_ = (y136 ++ y139) := ⟨_, rfl⟩
     replace H : (if y142.length + (l0.drop (x5_1 : Int).toNat).length < 8796093022208 then (some (y142 ++ (l0.drop (x5_1 : Int).toNat))) else (none)) = some r := ry_
     have Ny142 := Aside0.mk hy_; clear hy_
     have c35b0 := eq_true (od_ : 0 ≤ x5_1)
     have c36b0 := eq_true (od_ : x5_1 ≤ (l0.length : Int))
     replace H := inc_ H; obtain ⟨c37, H⟩ := H
     have LMc37 := Aside0.mk c37
     clear c37
     obtain ⟨y146, hy_⟩ : ∃ y_ : List ByteArray, y_ = (y142 ++ (l0.drop (x5_1 : Int).toNat)) := ⟨_, rfl⟩
     replace H : (some y146) = some r := ry_
     have Ny146 := Aside0.mk hy_; clear hy_
     obtain rfl := Option.some.inj H
     try go_wp2
     replace HB := Aside0.mk (below_drew1 HB.out)
     obtain ⟨i039, hi039, _, hsz39, _⟩ := info_parts info9
     obtain ⟨hcut39, hA39, hC39⟩ := print_take_of (P := Try.prog) Value.string (⟨#[]⟩ : ByteArray) 29 9 .i64 Try.underlying29 hi039 hsz39 A0 c0 l0 x5_1 (od_) (od_) HC0.out
     have HR135 := Aside0.mk (Kd.C_of_reads (h1 := fun _ => rfl) (hA39 _ (Kd.reads_of_C HR0.out)))
     have HC135 := Aside0.mk hC39
     clear hA39 hC39 hi039 hsz39
     obtain ⟨i040, hi040, _, hsz40, _⟩ := info_parts info9
     obtain ⟨A40, hcut40, hA40, hC40⟩ := print_drop_of (P := Try.prog) Value.string (⟨#[]⟩ : ByteArray) 29 9 .i64 Try.underlying29 hi040 hsz40 A0 c0 l0 x5_1 (od_) (od_) HC0.out
     have HR145 := Aside0.mk (Kd.C_of_reads (h1 := fun _ => rfl) (hA40 _ (Kd.reads_of_C HR0.out)))
     have HC145 := Aside0.mk hC40
     clear hA40 hC40 hi040 hsz40
     refine start_ (n := 13) (S := fun w' => True) (ds := []) (bm 13 0) (by kernel_rfl) rfl rfl trivial (fun hHeld => ?_); refine with_tabW spec_l1Put.tab6 spec_l1Put.bits6 (fun HT_ HW_ => ?_)
     generalize wr.drew = w38 at HB HR135 HR145 hHeld ⊢
     refine sp_ 1 (some 34) (bm 13 2) HT_ (h := ?_)
     refine sp_ 2 (some 35) (bm 13 6) HT_ (h := ?_)
     refine sp_ 3 (some 36) (bm 13 14) HT_ (h := ?_)
     refine sp_ 5 (some 38) (bm 13 46) HT_ (h := ?_)
     refine sp_ 8 (some 41) (bm 13 302) HT_ (h := ?_)
     refine sp_ 9 (some 42) (bm 13 814) HT_ (h := ?_)
     refine sp_ 10 (some 43) (bm 13 1838) HT_ (h := ?_)
     refine join_ (σ := Value × Value × Value) 3 (bm 13 1919) (fun s_ => [(33, s_.1), (37, s_.2.1), (39, s_.2.2)]) (fun s_ w' => (Kd.R Kd.string 9 w' w.heap.size (fun k_ => some k_ ≠ (s_.2.2 : Value).ownBlock) s_.2.1 y136) ∧ (Kd.R Kd.string 9 w' w.heap.size (fun k_ => some k_ ≠ (s_.2.1 : Value).ownBlock) s_.2.2 y139) ∧ (Below w.heap.size w w')) ?_ ?_
     rotate_left
     · intro hCont
       refine two_ (i := 0) (j := 6) (Ni := some 33) (Nj := some 39) (bm 13 1839) (bm 13 1902) rfl rfl rfl rfl (two_of HT_.out (by kernel_rfl)) (by decide) (by decide) (fun K hK => ?_) (fun K hK => ?_)
       · skip
         refine Kd.R_lit_step Kd.string _ 9 ?hg (N := 33) ?hd (xs := ([] : List ByteArray)) (inner := []) (ok := fun _ => True) (okp := fun _ => True) ?hr ?hp (fun _ hk => hk) trivial (Below.refl _ _) (Nat.le_refl _) (by simp) ?_; (case hd => rfl); (case hg => rfl); (case hr => first | (go_simp; done) | (go_simp; rfl)); (case hp => exact (Reps.none _ _))
         intro v133 w41 ho42 hb hg_ hnew_
         clear hg_ hnew_
         (first | rw [← Ny132.out] at ho42 | (simp only [Int.reduceToNat] at ho42; rw [← Ny132.out] at ho42))
         have HO134 := Aside0.mk (Kd.R_lower ho42 (below_size (bl_)))
         replace HB := Aside0.mk (below_step (bl_) hb)
         clear hb ho42
         refine hK.out _ _ trivial (fun hHeld => ?_)
         clear hK K
         refine nm_ ?_
         refine two_ (i := 4) (j := 6) (Ni := some 37) (Nj := some 39) (bm 13 1855) (bm 13 1903) rfl rfl rfl rfl (two_of HT_.out (by kernel_rfl)) (by decide) (by decide) (fun K hK => ?_) (fun K hK => ?_)
         · skip
           refine Kd.R_append_rows_step Kd.string (w0 := w) w.heap.size (by rfl) (.tmp 33) (.tmp 36) 29 9 (.string ⟨#[]⟩) 16 rfl Try.underlying29 info9 rfl (by decide) (by omega) v133 y132 (l0.take (x5_1 : Int).toNat) _ _ _ (fun _ => True) (fun _ => False) rfl rfl ?aO ?aR (fun _ _ h => h) (fun _ h => h.elim) ?aF ?aB ?aS ?aL ?_
           (case aR => first | (refine (congrArg (fun m_ => ReadsRow _ _ _ _ m_ _) (show (l0.take (x5_1 : Int).toNat).length = x5_1.toNat from (by rw [List.length_take]; have h_ : (x5_1 : Int) ≤ (l0.length : Int) := od_; omega))).mp ?_; repeat (first | exact (Kd.C_below HR135.out HB.out) | (with_reducible refine Kd.C_alloc ?_ _) | (with_reducible refine Kd.C_drewN ?_ _) | (with_reducible refine Kd.C_drew ?_))) | (repeat (first | exact (Kd.C_below HR135.out HB.out) | (with_reducible refine Kd.C_alloc ?_ _) | (with_reducible refine Kd.C_drewN ?_ _) | (with_reducible refine Kd.C_drew ?_))))
           (case aB => exact (bl_))
           (case aF => exact (fun _ _ => trivial))
           (case aO => exact (kR_ HO134))
           (case aS => exact (below_size (bl_)))
           (case aL => have := LMc33.out; have hlx_ := (show (l0.take (x5_1 : Int).toNat).length = x5_1.toNat from (by rw [List.length_take]; have h_ : (x5_1 : Int) ≤ (l0.length : Int) := od_; omega)); omega)
           intro v137 w43 ho hb hg hat
           rw [← Ny136.out] at ho
           replace HB := Aside0.mk (hb)
           have HO138 := Aside0.mk (ho)
           clear HO134
           clear ho hb hg hat
           refine hK.out _ _ trivial (fun hHeld => ?_)
           clear hK K
           refine nm_ ?_
           refine sn_ 6 (some 39) (bm 13 1919) HT_ (fun K hK => ?_)
           refine Kd.R_lit_step Kd.string _ 9 ?hg (N := 39) ?hd (xs := ([a1] : List ByteArray)) (inner := [.string a1]) (ok := fun _ => True) (okp := fun _ => True) ?hr ?hp (fun _ hk => hk) trivial (Below.refl _ _) (Nat.le_refl _) (by simp) ?_; (case hd => rfl); (case hg => rfl); (case hr => first | (go_simp; done) | (go_simp; rfl)); (case hp => exact (Reps.one (show Kd.M Kd.string _ _ _ a1 [.string a1] from rfl) (Reps.none _ _)))
           intro v140 w44 ho45 hb hg_ hnew_
           clear hg_ hnew_
           (first | rw [← Ny139.out] at ho45 | (simp only [Int.reduceToNat] at ho45; rw [← Ny139.out] at ho45))
           have HO141 := Aside0.mk (Kd.R_lower (Kd.R_new' ho45 (Kd.R_lt (kR_ HO138))) (below_size (bl_)))
           replace HO138 := Aside0.mk (Kd.R_elder' (kR_ HO138) (Kd.R_base ho45) hb)
           replace HB := Aside0.mk (below_step (bl_) hb)
           clear hb ho45
           refine hK.out _ _ trivial (fun hHeld => ?_)
           clear hK K
           refine nm_ ?_
           exact norm_ (by simp only [putAll, Act.put, List.setIfInBounds_toArray, List.set_cons_zero, List.set_cons_succ]) (hCont (v133, v137, v140) _ ⟨(by (with_reducible repeat (first | apply Kd.R_alloc | apply Kd.R_drewN | apply Kd.R_drew)); exact Kd.R_mono HO138.out (fun _ hk => hk.2)), (by (with_reducible repeat (first | apply Kd.R_alloc | apply Kd.R_drewN | apply Kd.R_drew)); exact Kd.R_mono HO141.out (fun _ hk => hk.2)), (bl_)⟩)
         · skip
           refine Kd.R_lit_step Kd.string _ 9 ?hg (N := 39) ?hd (xs := ([a1] : List ByteArray)) (inner := [.string a1]) (ok := fun _ => True) (okp := fun _ => True) ?hr ?hp (fun _ hk => hk) trivial (Below.refl _ _) (Nat.le_refl _) (by simp) ?_; (case hd => rfl); (case hg => rfl); (case hr => first | (go_simp; done) | (go_simp; rfl)); (case hp => exact (Reps.one (show Kd.M Kd.string _ _ _ a1 [.string a1] from rfl) (Reps.none _ _)))
           intro v140 w43 ho44 hb hg_ hnew_
           clear hg_ hnew_
           (first | rw [← Ny139.out] at ho44 | (simp only [Int.reduceToNat] at ho44; rw [← Ny139.out] at ho44))
           have HO141 := Aside0.mk (Kd.R_lower (Kd.R_new' ho44 (Kd.R_lt (kR_ HO134))) (below_size (bl_)))
           replace HO134 := Aside0.mk (Kd.R_elder' (kR_ HO134) (Kd.R_base ho44) hb)
           replace HB := Aside0.mk (below_step (bl_) hb)
           clear hb ho44
           refine hK.out _ _ trivial (fun hHeld => ?_)
           clear hK K
           refine nm_ ?_
           refine sn_ 4 (some 37) (bm 13 1919) HT_ (fun K hK => ?_)
           refine Kd.R_append_rows_step Kd.string (w0 := w) w.heap.size (by rfl) (.tmp 33) (.tmp 36) 29 9 (.string ⟨#[]⟩) 16 rfl Try.underlying29 info9 rfl (by decide) (by omega) v133 y132 (l0.take (x5_1 : Int).toNat) _ _ _ (fun k_ => some k_ ≠ (v140 : Value).ownBlock) (fun _ => False) rfl rfl ?aO ?aR (fun _ _ h => h) (fun _ h => h.elim) ?aF ?aB ?aS ?aL ?_
           (case aR => first | (refine (congrArg (fun m_ => ReadsRow _ _ _ _ m_ _) (show (l0.take (x5_1 : Int).toNat).length = x5_1.toNat from (by rw [List.length_take]; have h_ : (x5_1 : Int) ≤ (l0.length : Int) := od_; omega))).mp ?_; repeat (first | exact (Kd.C_below HR135.out HB.out) | (with_reducible refine Kd.C_alloc ?_ _) | (with_reducible refine Kd.C_drewN ?_ _) | (with_reducible refine Kd.C_drew ?_))) | (repeat (first | exact (Kd.C_below HR135.out HB.out) | (with_reducible refine Kd.C_alloc ?_ _) | (with_reducible refine Kd.C_drewN ?_ _) | (with_reducible refine Kd.C_drew ?_))))
           (case aB => exact (bl_))
           (case aF => exact (fun k_ hk => Kd.fresh' (Kd.R_lt (kR_ HO141)) k_ hk))
           (case aO => exact (by (with_reducible repeat (first | apply Kd.R_alloc | apply Kd.R_drewN | apply Kd.R_drew)); exact Kd.R_mono HO134.out (fun _ hk => hk.2)))
           (case aS => exact (below_size (bl_)))
           (case aL => have := LMc33.out; have hlx_ := (show (l0.take (x5_1 : Int).toNat).length = x5_1.toNat from (by rw [List.length_take]; have h_ : (x5_1 : Int) ≤ (l0.length : Int) := od_; omega)); omega)
           intro v137 w45 ho hb hg hat
           rw [← Ny136.out] at ho
           replace HO141 := Aside0.mk (Kd.R_after (ok := (fun _ => True)) (kR_ HO141) hg hat)
           replace HB := Aside0.mk (hb)
           have HO138 := Aside0.mk (ho)
           clear HO134
           clear ho hb hg hat
           refine hK.out _ _ trivial (fun hHeld => ?_)
           clear hK K
           refine nm_ ?_
           exact norm_ (by simp only [putAll, Act.put, List.setIfInBounds_toArray, List.set_cons_zero, List.set_cons_succ]) (hCont (v133, v137, v140) _ ⟨(kR_ HO138), (by (with_reducible repeat (first | apply Kd.R_alloc | apply Kd.R_drewN | apply Kd.R_drew)); exact Kd.R_mono HO141.out (fun _ hk => hk.2)), (bl_)⟩)
       · skip
         refine Kd.R_lit_step Kd.string _ 9 ?hg (N := 39) ?hd (xs := ([a1] : List ByteArray)) (inner := [.string a1]) (ok := fun _ => True) (okp := fun _ => True) ?hr ?hp (fun _ hk => hk) trivial (Below.refl _ _) (Nat.le_refl _) (by simp) ?_; (case hd => rfl); (case hg => rfl); (case hr => first | (go_simp; done) | (go_simp; rfl)); (case hp => exact (Reps.one (show Kd.M Kd.string _ _ _ a1 [.string a1] from rfl) (Reps.none _ _)))
         intro v140 w41 ho42 hb hg_ hnew_
         clear hg_ hnew_
         (first | rw [← Ny139.out] at ho42 | (simp only [Int.reduceToNat] at ho42; rw [← Ny139.out] at ho42))
         have HO141 := Aside0.mk (Kd.R_lower ho42 (below_size (bl_)))
         replace HB := Aside0.mk (below_step (bl_) hb)
         clear hb ho42
         refine hK.out _ _ trivial (fun hHeld => ?_)
         clear hK K
         refine nm_ ?_
         refine sn_ 0 (some 33) (bm 13 1903) HT_ (fun K hK => ?_)
         refine Kd.R_lit_step Kd.string _ 9 ?hg (N := 33) ?hd (xs := ([] : List ByteArray)) (inner := []) (ok := fun _ => True) (okp := fun _ => True) ?hr ?hp (fun _ hk => hk) trivial (Below.refl _ _) (Nat.le_refl _) (by simp) ?_; (case hd => rfl); (case hg => rfl); (case hr => first | (go_simp; done) | (go_simp; rfl)); (case hp => exact (Reps.none _ _))
         intro v133 w43 ho44 hb hg_ hnew_
         clear hg_ hnew_
         (first | rw [← Ny132.out] at ho44 | (simp only [Int.reduceToNat] at ho44; rw [← Ny132.out] at ho44))
         have HO134 := Aside0.mk (Kd.R_lower (Kd.R_new' ho44 (Kd.R_lt (kR_ HO141))) (below_size (bl_)))
         replace HO141 := Aside0.mk (Kd.R_elder' (kR_ HO141) (Kd.R_base ho44) hb)
         replace HB := Aside0.mk (below_step (bl_) hb)
         clear hb ho44
         refine hK.out _ _ trivial (fun hHeld => ?_)
         clear hK K
         refine nm_ ?_
         refine sn_ 4 (some 37) (bm 13 1919) HT_ (fun K hK => ?_)
         refine Kd.R_append_rows_step Kd.string (w0 := w) w.heap.size (by rfl) (.tmp 33) (.tmp 36) 29 9 (.string ⟨#[]⟩) 16 rfl Try.underlying29 info9 rfl (by decide) (by omega) v133 y132 (l0.take (x5_1 : Int).toNat) _ _ _ (fun k_ => some k_ ≠ (v140 : Value).ownBlock) (fun _ => False) rfl rfl ?aO ?aR (fun _ _ h => h) (fun _ h => h.elim) ?aF ?aB ?aS ?aL ?_
         (case aR => first | (refine (congrArg (fun m_ => ReadsRow _ _ _ _ m_ _) (show (l0.take (x5_1 : Int).toNat).length = x5_1.toNat from (by rw [List.length_take]; have h_ : (x5_1 : Int) ≤ (l0.length : Int) := od_; omega))).mp ?_; repeat (first | exact (Kd.C_below HR135.out HB.out) | (with_reducible refine Kd.C_alloc ?_ _) | (with_reducible refine Kd.C_drewN ?_ _) | (with_reducible refine Kd.C_drew ?_))) | (repeat (first | exact (Kd.C_below HR135.out HB.out) | (with_reducible refine Kd.C_alloc ?_ _) | (with_reducible refine Kd.C_drewN ?_ _) | (with_reducible refine Kd.C_drew ?_))))
         (case aB => exact (bl_))
         (case aF => exact (fun k_ hk => Kd.fresh' (Kd.R_lt (kR_ HO141)) k_ hk))
         (case aO => exact (by (with_reducible repeat (first | apply Kd.R_alloc | apply Kd.R_drewN | apply Kd.R_drew)); exact Kd.R_mono HO134.out (fun _ hk => hk.2)))
         (case aS => exact (below_size (bl_)))
         (case aL => have := LMc33.out; have hlx_ := (show (l0.take (x5_1 : Int).toNat).length = x5_1.toNat from (by rw [List.length_take]; have h_ : (x5_1 : Int) ≤ (l0.length : Int) := od_; omega)); omega)
         intro v137 w45 ho hb hg hat
         rw [← Ny136.out] at ho
         replace HO141 := Aside0.mk (Kd.R_after (ok := (fun _ => True)) (kR_ HO141) hg hat)
         replace HB := Aside0.mk (hb)
         have HO138 := Aside0.mk (ho)
         clear HO134
         clear ho hb hg hat
         refine hK.out _ _ trivial (fun hHeld => ?_)
         clear hK K
         refine nm_ ?_
         exact norm_ (by simp only [putAll, Act.put, List.setIfInBounds_toArray, List.set_cons_zero, List.set_cons_succ]) (hCont (v133, v137, v140) _ ⟨(kR_ HO138), (by (with_reducible repeat (first | apply Kd.R_alloc | apply Kd.R_drewN | apply Kd.R_drew)); exact Kd.R_mono HO141.out (fun _ hk => hk.2)), (bl_)⟩)
     rintro ⟨v133, v137, v140⟩ w46 ⟨h0_, h1_, h2_⟩
     have n0_ : Aside0 (Kd.R Kd.string 9 w46 w.heap.size (fun k_ => some k_ ≠ (v140 : Value).ownBlock) v137 y136) := ⟨h0_⟩
     have n1_ : Aside0 (Kd.R Kd.string 9 w46 w.heap.size (fun k_ => some k_ ≠ (v137 : Value).ownBlock) v140 y139) := ⟨h1_⟩
     have n2_ : Aside0 (Below w.heap.size w w46) := ⟨h2_⟩
     clear HB
     clear h0_ h1_ h2_
     have HO138 := n0_
     have HO141 := n1_
     have HB := n2_
     clear n0_ n1_ n2_
     have hHeld := trivial
     obtain ⟨Ao48, co48, eo48⟩ := Kd.R_slice HO141.out
     (first | subst eo48 | (injection eo48 with f1_ f2_ f3_; have f4_ := f1_.symm; have f5_ := f3_.symm; clear f1_ f2_ f3_; subst f4_; subst f5_))
     refine norm_ (a' := ?_) ?_ ?_
     rotate_left
     · simp only [putAll, Act.put, List.setIfInBounds_toArray, List.set_cons_zero, List.set_cons_succ]
       rfl
     refine sn_ 7 (some 40) (bm 13 2047) HT_ (fun K hK => ?_)
     refine Kd.R_append_rows_step Kd.string (w0 := w) w.heap.size (by rfl) (.tmp 37) (.tmp 39) 29 9 (.string ⟨#[]⟩) 16 rfl Try.underlying29 info9 rfl (by decide) (by omega) v137 y136 y139 _ _ _ (fun k_ => some k_ ≠ (.slice Ao48 y139.length co48 : Value).ownBlock) (fun _ => False) rfl rfl ?aO ?aR (fun _ _ h => h) (fun _ h => h.elim) ?aF ?aB ?aS ?aL ?_
     (case aR => exact cr_ HO141)
     (case aB => exact (bl_))
     (case aF => exact (fun k_ hk => Kd.fresh' (Kd.R_lt (kR_ HO141)) k_ hk))
     (case aO => exact (kR_ HO138))
     (case aS => exact (below_size (bl_)))
     (case aL => have := LMc34.out; omega)
     intro v143 w47 ho hb hg hat
     rw [← Ny142.out] at ho
     replace HO141 := Aside0.mk (Kd.R_after (ok := (fun _ => True)) (by (with_reducible repeat (first | apply Kd.R_alloc | apply Kd.R_drewN | apply Kd.R_drew)); exact Kd.R_mono HO141.out (fun _ hk => ⟨trivial, hk⟩)) hg hat)
     replace HB := Aside0.mk (hb)
     have HO144 := Aside0.mk (ho)
     clear HO138
     clear ho hb hg hat
     refine hK.out _ _ trivial (fun hHeld => ?_)
     clear hK K
     refine nm_ ?_
     refine sn_ 11 (some 44) (bm 13 4095) HT_ (fun K hK => ?_)
     refine Kd.R_append_rows_step Kd.string (w0 := w) w.heap.size (by rfl) (.tmp 40) (.tmp 43) 29 9 (.string ⟨#[]⟩) 16 rfl Try.underlying29 info9 rfl (by decide) (by omega) v143 y142 (l0.drop (x5_1 : Int).toNat) _ _ _ (fun k_ => some k_ ≠ (.slice Ao48 y139.length co48 : Value).ownBlock) (fun _ => False) rfl rfl ?aO ?aR (fun _ _ h => h) (fun _ h => h.elim) ?aF ?aB ?aS ?aL ?_
     (case aR => first | (rw [← show (l0.drop (x5_1 : Int).toNat).length = (l0.length - x5_1.toNat) from List.length_drop]; repeat (first | exact (Kd.C_below HR145.out HB.out) | (with_reducible refine Kd.C_alloc ?_ _) | (with_reducible refine Kd.C_drewN ?_ _) | (with_reducible refine Kd.C_drew ?_))) | (repeat (first | exact (Kd.C_below HR145.out HB.out) | (with_reducible refine Kd.C_alloc ?_ _) | (with_reducible refine Kd.C_drewN ?_ _) | (with_reducible refine Kd.C_drew ?_))))
     (case aB => exact (bl_))
     (case aF => exact (fun k_ hk => Kd.fresh' (Kd.R_lt (kR_ HO141)) k_ hk))
     (case aO => exact (kR_ HO144))
     (case aS => exact (below_size (bl_)))
     (case aL => have := LMc37.out; have hlx_ := (show (l0.drop (x5_1 : Int).toNat).length = (l0.length - x5_1.toNat) from List.length_drop); omega)
     intro v147 w49 ho hb hg hat
     rw [← Ny146.out] at ho
     replace HO141 := Aside0.mk (Kd.R_after (ok := (fun _ => True)) (kR_ HO141) hg hat)
     replace HB := Aside0.mk (hb)
     have HO148 := Aside0.mk (ho)
     clear HO144
     clear ho hb hg hat
     refine hK.out _ _ trivial (fun hHeld => ?_)
     clear hK K
     refine nm_ ?_
     refine sp_ 12 (some 4) (bm 13 8191) HT_ (h := ?_)
     refine done_ (done_of HT_.out (by kernel_rfl)) ?_
     try go_wp2
     go_ret
     exact ⟨_, rfe_, .inr (by (with_reducible repeat (first | apply Kd.R_alloc | apply Kd.R_drewN | apply Kd.R_drew)); exact Kd.R_mono HO148.out (fun _ hk => trivial)), bl_⟩
   replace H := ind_ H; obtain ⟨c4b0, H⟩ := H
   replace H := itcc_ H; rcases H with ⟨c5, H⟩ | ⟨c5, H⟩
   · have c5b0 : (Op.bytesLess ((rdOf ByteArray.empty l0 x5_1).toList) a1.toList) = true := c5
     clear c5
     have H' := Aside0.mk H; clear H
     have p107 : 0 ≤ (x5_1 : Int) := od_
     have q107 : x5_1 < (l0.length : Int) := od_
     obtain ⟨ad107, e107, hx107_0⟩ := Kd.at_string HR0.out x5_1 p107 q107
     cases e107
     replace hx107_0 := hc_ HB hx107_0
     replace p107 := eq_true p107; replace q107 := eq_true q107
     go_wp2
     go_roundg k1
     case measure => have := HK1.out; omega
     case rel => exact ⟨(wrap64 (x5_1 + 1)), rf_, H', ⟨by have := HK1.out; omega⟩, ⟨bl_⟩⟩
   have c5b0 : (Op.bytesLess ((rdOf ByteArray.empty l0 x5_1).toList) a1.toList) = false := by simpa using c5
   clear c5
   replace H := itcc_ H; rcases H with ⟨c6, H⟩ | ⟨c6, H⟩
   · have c6b0 : ((rdOf ByteArray.empty l0 x5_1).toList == a1.toList) = true := beq_iff_eq.mpr c6
     have c6b1 : ((rdOf ByteArray.empty l0 x5_1).toList != a1.toList) = false := bne_eq_false_iff_eq.mpr c6
     clear c6
     obtain rfl := Option.some.inj H
     have p_ : 0 ≤ (x5_1 : Int) := od_
     have q_ : x5_1 < (l0.length : Int) := od_
     obtain ⟨ad_, e_, hx_⟩ := Kd.at_string HR0.out x5_1 p_ q_
     cases e_
     replace hx_ := hc_ HB hx_
     replace p_ := eq_true p_
     replace q_ := eq_true q_
     go_wp2
     go_ret
     exact ⟨_, rfl, .inl (by first | exact ⟨rfl, rfl⟩ | rfl), bl_⟩
   have c6b0 : ((rdOf ByteArray.empty l0 x5_1).toList == a1.toList) = false := beq_eq_false_iff_ne.mpr c6
   have c6b1 : ((rdOf ByteArray.empty l0 x5_1).toList != a1.toList) = true := bne_iff_ne.mpr c6
   obtain ⟨y115, hy_⟩ : ∃ y_ : List ByteArray, y_ = (([] : List ByteArray)) := ⟨_, rfl⟩
   replace H : (if x5_1 ≤ (l0.length : Int) then (if y115.length + (l0.take (x5_1 : Int).toNat).length < 8796093022208 then ((some (y115 ++ (l0.take (x5_1 : Int).toNat) : List ByteArray)).bind fun y119 => ((some (([a1] : List ByteArray) : List ByteArray)).bind fun y122 => (if y119.length + y122.length < 8796093022208 then ((some (y119 ++ y122 : List ByteArray)).bind fun y125 => (if y125.length + (l0.drop (x5_1 : Int).toNat).length < 8796093022208 then (some (y125 ++ (l0.drop (x5_1 : Int).toNat))) else (none))) else (none)))) else (none)) else (none)) = some r := ry_
   have Ny115 := Aside0.mk hy_; clear hy_
   have c12b0 := eq_true (od_ : 0 ≤ x5_1)
   replace H := inc_ H; obtain ⟨c13, H⟩ := H
   have c13b0 := eq_true c13
   have c13b1 : decide (x5_1 ≤ (l0.length : Int)) = true := decide_eq_true c13
   clear c13
   replace H := inc_ H; obtain ⟨c14, H⟩ := H
   have LMc14 := Aside0.mk c14
   clear c14
   obtain ⟨y119, hy_⟩ : ∃ y_ : List ByteArray, y_ = (y115 ++ (l0.take (x5_1 : Int).toNat)) := ⟨_, rfl⟩
   replace H : ((some (([a1] : List ByteArray) : List ByteArray)).bind fun y122 => (if y119.length + y122.length < 8796093022208 then ((some (y119 ++ y122 : List ByteArray)).bind fun y125 => (if y125.length + (l0.drop (x5_1 : Int).toNat).length < 8796093022208 then (some (y125 ++ (l0.drop (x5_1 : Int).toNat))) else (none))) else (none))) = some r := ry_
   have Ny119 := Aside0.mk hy_; clear hy_
   obtain ⟨y122, hy_⟩ : ∃ y_ : List ByteArray, y_ = (([a1] : List ByteArray)) := ⟨_, rfl⟩
   replace H : (if y119.length + y122.length < 8796093022208 then ((some (y119 ++ y122 : List ByteArray)).bind fun y125 => (if y125.length + (l0.drop (x5_1 : Int).toNat).length < 8796093022208 then (some (y125 ++ (l0.drop (x5_1 : Int).toNat))) else (none))) else (none)) = some r := ry_
   have Ny122 := Aside0.mk hy_; clear hy_
   replace H := inc_ H; obtain ⟨c15, H⟩ := H
   have LMc15 := Aside0.mk c15
   clear c15
   obtain ⟨y125, hy_⟩ : ∃ y_ : List ByteArray, y_ = (y119 ++ y122) := ⟨_, rfl⟩
   replace H : (if y125.length + (l0.drop (x5_1 : Int).toNat).length < 8796093022208 then (some (y125 ++ (l0.drop (x5_1 : Int).toNat))) else (none)) = some r := ry_
   have Ny125 := Aside0.mk hy_; clear hy_
   have c16b0 := eq_true (od_ : 0 ≤ x5_1)
   have c17b0 := eq_true (od_ : x5_1 ≤ (l0.length : Int))
   replace H := inc_ H; obtain ⟨c18, H⟩ := H
   have LMc18 := Aside0.mk c18
   clear c18
   obtain ⟨y129, hy_⟩ : ∃ y_ : List ByteArray, y_ = (y125 ++ (l0.drop (x5_1 : Int).toNat)) := ⟨_, rfl⟩
   replace H : (some y129) = some r := ry_
   have Ny129 := Aside0.mk hy_; clear hy_
   obtain rfl := Option.some.inj H
   have p107 : 0 ≤ (x5_1 : Int) := od_
   have q107 : x5_1 < (l0.length : Int) := od_
   obtain ⟨ad107, e107, hx107_0⟩ := Kd.at_string HR0.out x5_1 p107 q107
   cases e107
   replace hx107_0 := hc_ HB hx107_0
   replace p107 := eq_true p107; replace q107 := eq_true q107
   have p108 : 0 ≤ (x5_1 : Int) := od_
   have q108 : x5_1 < (l0.length : Int) := od_
   obtain ⟨ad108, e108, hx108_0⟩ := Kd.at_string HR0.out x5_1 p108 q108
   obtain rfl : ad107 = ad108 := (by injection e108)
   replace hx108_0 := hc_ HB hx108_0
   replace p108 := eq_true p108; replace q108 := eq_true q108
   try go_wp2
   replace HB := Aside0.mk (below_drew1 HB.out)
   obtain ⟨i020, hi020, _, hsz20, _⟩ := info_parts info9
   obtain ⟨hcut20, hA20, hC20⟩ := print_take_of (P := Try.prog) Value.string (⟨#[]⟩ : ByteArray) 29 9 .i64 Try.underlying29 hi020 hsz20 (some ad107) c0 l0 x5_1 (od_) (od_) HC0.out
   have HR118 := Aside0.mk (Kd.C_of_reads (h1 := fun _ => rfl) (hA20 _ (Kd.reads_of_C HR0.out)))
   have HC118 := Aside0.mk hC20
   clear hA20 hC20 hi020 hsz20
   obtain ⟨i021, hi021, _, hsz21, _⟩ := info_parts info9
   obtain ⟨A21, hcut21, hA21, hC21⟩ := print_drop_of (P := Try.prog) Value.string (⟨#[]⟩ : ByteArray) 29 9 .i64 Try.underlying29 hi021 hsz21 (some ad107) c0 l0 x5_1 (od_) (od_) HC0.out
   have HR128 := Aside0.mk (Kd.C_of_reads (h1 := fun _ => rfl) (hA21 _ (Kd.reads_of_C HR0.out)))
   have HC128 := Aside0.mk hC21
   clear hA21 hC21 hi021 hsz21
   refine start_ (n := 13) (S := fun w' => True) (ds := []) (bm 13 0) (by kernel_rfl) rfl rfl trivial (fun hHeld => ?_); refine with_tabW spec_l1Put.tab6 spec_l1Put.bits6 (fun HT_ HW_ => ?_)
   generalize wr.drew = w19 at HB HR118 HR128 hHeld ⊢
   refine sp_ 1 (some 34) (bm 13 2) HT_ (h := ?_)
   refine sp_ 2 (some 35) (bm 13 6) HT_ (h := ?_)
   refine sp_ 3 (some 36) (bm 13 14) HT_ (h := ?_)
   refine sp_ 5 (some 38) (bm 13 46) HT_ (h := ?_)
   refine sp_ 8 (some 41) (bm 13 302) HT_ (h := ?_)
   refine sp_ 9 (some 42) (bm 13 814) HT_ (h := ?_)
   refine sp_ 10 (some 43) (bm 13 1838) HT_ (h := ?_)
   refine join_ (σ := Value × Value × Value) 3 (bm 13 1919) (fun s_ => [(33, s_.1), (37, s_.2.1), (39, s_.2.2)]) (fun s_ w' => (Kd.R Kd.string 9 w' w.heap.size (fun k_ => some k_ ≠ (s_.2.2 : Value).ownBlock) s_.2.1 y119) ∧ (Kd.R Kd.string 9 w' w.heap.size (fun k_ => some k_ ≠ (s_.2.1 : Value).ownBlock) s_.2.2 y122) ∧ (Below w.heap.size w w')) ?_ ?_
   rotate_left
   · intro hCont
     refine two_ (i := 0) (j := 6) (Ni := some 33) (Nj := some 39) (bm 13 1839) (bm 13 1902) rfl rfl rfl rfl (two_of HT_.out (by kernel_rfl)) (by decide) (by decide) (fun K hK => ?_) (fun K hK => ?_)
     · skip
       refine Kd.R_lit_step Kd.string _ 9 ?hg (N := 33) ?hd (xs := ([] : List ByteArray)) (inner := []) (ok := fun _ => True) (okp := fun _ => True) ?hr ?hp (fun _ hk => hk) trivial (Below.refl _ _) (Nat.le_refl _) (by simp) ?_; (case hd => rfl); (case hg => rfl); (case hr => first | (go_simp; done) | (go_simp; rfl)); (case hp => exact (Reps.none _ _))
       intro v116 w22 ho23 hb hg_ hnew_
       clear hg_ hnew_
       (first | rw [← Ny115.out] at ho23 | (simp only [Int.reduceToNat] at ho23; rw [← Ny115.out] at ho23))
       have HO117 := Aside0.mk (Kd.R_lower ho23 (below_size (bl_)))
       replace HB := Aside0.mk (below_step (bl_) hb)
       clear hb ho23
       refine hK.out _ _ trivial (fun hHeld => ?_)
       clear hK K
       refine nm_ ?_
       refine two_ (i := 4) (j := 6) (Ni := some 37) (Nj := some 39) (bm 13 1855) (bm 13 1903) rfl rfl rfl rfl (two_of HT_.out (by kernel_rfl)) (by decide) (by decide) (fun K hK => ?_) (fun K hK => ?_)
       · skip
         refine Kd.R_append_rows_step Kd.string (w0 := w) w.heap.size (by rfl) (.tmp 33) (.tmp 36) 29 9 (.string ⟨#[]⟩) 16 rfl Try.underlying29 info9 rfl (by decide) (by omega) v116 y115 (l0.take (x5_1 : Int).toNat) _ _ _ (fun _ => True) (fun _ => False) rfl rfl ?aO ?aR (fun _ _ h => h) (fun _ h => h.elim) ?aF ?aB ?aS ?aL ?_
         (case aR => first | (refine (congrArg (fun m_ => ReadsRow _ _ _ _ m_ _) (show (l0.take (x5_1 : Int).toNat).length = x5_1.toNat from (by rw [List.length_take]; have h_ : (x5_1 : Int) ≤ (l0.length : Int) := od_; omega))).mp ?_; repeat (first | exact (Kd.C_below HR118.out HB.out) | (with_reducible refine Kd.C_alloc ?_ _) | (with_reducible refine Kd.C_drewN ?_ _) | (with_reducible refine Kd.C_drew ?_))) | (repeat (first | exact (Kd.C_below HR118.out HB.out) | (with_reducible refine Kd.C_alloc ?_ _) | (with_reducible refine Kd.C_drewN ?_ _) | (with_reducible refine Kd.C_drew ?_))))
         (case aB => exact (bl_))
         (case aF => exact (fun _ _ => trivial))
         (case aO => exact (kR_ HO117))
         (case aS => exact (below_size (bl_)))
         (case aL => have := LMc14.out; have hlx_ := (show (l0.take (x5_1 : Int).toNat).length = x5_1.toNat from (by rw [List.length_take]; have h_ : (x5_1 : Int) ≤ (l0.length : Int) := od_; omega)); omega)
         intro v120 w24 ho hb hg hat
         rw [← Ny119.out] at ho
         replace HB := Aside0.mk (hb)
         have HO121 := Aside0.mk (ho)
         clear HO117
         clear ho hb hg hat
         refine hK.out _ _ trivial (fun hHeld => ?_)
         clear hK K
         refine nm_ ?_
         refine sn_ 6 (some 39) (bm 13 1919) HT_ (fun K hK => ?_)
         refine Kd.R_lit_step Kd.string _ 9 ?hg (N := 39) ?hd (xs := ([a1] : List ByteArray)) (inner := [.string a1]) (ok := fun _ => True) (okp := fun _ => True) ?hr ?hp (fun _ hk => hk) trivial (Below.refl _ _) (Nat.le_refl _) (by simp) ?_; (case hd => rfl); (case hg => rfl); (case hr => first | (go_simp; done) | (go_simp; rfl)); (case hp => exact (Reps.one (show Kd.M Kd.string _ _ _ a1 [.string a1] from rfl) (Reps.none _ _)))
         intro v123 w25 ho26 hb hg_ hnew_
         clear hg_ hnew_
         (first | rw [← Ny122.out] at ho26 | (simp only [Int.reduceToNat] at ho26; rw [← Ny122.out] at ho26))
         have HO124 := Aside0.mk (Kd.R_lower (Kd.R_new' ho26 (Kd.R_lt (kR_ HO121))) (below_size (bl_)))
         replace HO121 := Aside0.mk (Kd.R_elder' (kR_ HO121) (Kd.R_base ho26) hb)
         replace HB := Aside0.mk (below_step (bl_) hb)
         clear hb ho26
         refine hK.out _ _ trivial (fun hHeld => ?_)
         clear hK K
         refine nm_ ?_
         exact norm_ (by simp only [putAll, Act.put, List.setIfInBounds_toArray, List.set_cons_zero, List.set_cons_succ]) (hCont (v116, v120, v123) _ ⟨(by (with_reducible repeat (first | apply Kd.R_alloc | apply Kd.R_drewN | apply Kd.R_drew)); exact Kd.R_mono HO121.out (fun _ hk => hk.2)), (by (with_reducible repeat (first | apply Kd.R_alloc | apply Kd.R_drewN | apply Kd.R_drew)); exact Kd.R_mono HO124.out (fun _ hk => hk.2)), (bl_)⟩)
       · skip
         refine Kd.R_lit_step Kd.string _ 9 ?hg (N := 39) ?hd (xs := ([a1] : List ByteArray)) (inner := [.string a1]) (ok := fun _ => True) (okp := fun _ => True) ?hr ?hp (fun _ hk => hk) trivial (Below.refl _ _) (Nat.le_refl _) (by simp) ?_; (case hd => rfl); (case hg => rfl); (case hr => first | (go_simp; done) | (go_simp; rfl)); (case hp => exact (Reps.one (show Kd.M Kd.string _ _ _ a1 [.string a1] from rfl) (Reps.none _ _)))
         intro v123 w24 ho25 hb hg_ hnew_
         clear hg_ hnew_
         (first | rw [← Ny122.out] at ho25 | (simp only [Int.reduceToNat] at ho25; rw [← Ny122.out] at ho25))
         have HO124 := Aside0.mk (Kd.R_lower (Kd.R_new' ho25 (Kd.R_lt (kR_ HO117))) (below_size (bl_)))
         replace HO117 := Aside0.mk (Kd.R_elder' (kR_ HO117) (Kd.R_base ho25) hb)
         replace HB := Aside0.mk (below_step (bl_) hb)
         clear hb ho25
         refine hK.out _ _ trivial (fun hHeld => ?_)
         clear hK K
         refine nm_ ?_
         refine sn_ 4 (some 37) (bm 13 1919) HT_ (fun K hK => ?_)
         refine Kd.R_append_rows_step Kd.string (w0 := w) w.heap.size (by rfl) (.tmp 33) (.tmp 36) 29 9 (.string ⟨#[]⟩) 16 rfl Try.underlying29 info9 rfl (by decide) (by omega) v116 y115 (l0.take (x5_1 : Int).toNat) _ _ _ (fun k_ => some k_ ≠ (v123 : Value).ownBlock) (fun _ => False) rfl rfl ?aO ?aR (fun _ _ h => h) (fun _ h => h.elim) ?aF ?aB ?aS ?aL ?_
         (case aR => first | (refine (congrArg (fun m_ => ReadsRow _ _ _ _ m_ _) (show (l0.take (x5_1 : Int).toNat).length = x5_1.toNat from (by rw [List.length_take]; have h_ : (x5_1 : Int) ≤ (l0.length : Int) := od_; omega))).mp ?_; repeat (first | exact (Kd.C_below HR118.out HB.out) | (with_reducible refine Kd.C_alloc ?_ _) | (with_reducible refine Kd.C_drewN ?_ _) | (with_reducible refine Kd.C_drew ?_))) | (repeat (first | exact (Kd.C_below HR118.out HB.out) | (with_reducible refine Kd.C_alloc ?_ _) | (with_reducible refine Kd.C_drewN ?_ _) | (with_reducible refine Kd.C_drew ?_))))
         (case aB => exact (bl_))
         (case aF => exact (fun k_ hk => Kd.fresh' (Kd.R_lt (kR_ HO124)) k_ hk))
         (case aO => exact (by (with_reducible repeat (first | apply Kd.R_alloc | apply Kd.R_drewN | apply Kd.R_drew)); exact Kd.R_mono HO117.out (fun _ hk => hk.2)))
         (case aS => exact (below_size (bl_)))
         (case aL => have := LMc14.out; have hlx_ := (show (l0.take (x5_1 : Int).toNat).length = x5_1.toNat from (by rw [List.length_take]; have h_ : (x5_1 : Int) ≤ (l0.length : Int) := od_; omega)); omega)
         intro v120 w26 ho hb hg hat
         rw [← Ny119.out] at ho
         replace HO124 := Aside0.mk (Kd.R_after (ok := (fun _ => True)) (kR_ HO124) hg hat)
         replace HB := Aside0.mk (hb)
         have HO121 := Aside0.mk (ho)
         clear HO117
         clear ho hb hg hat
         refine hK.out _ _ trivial (fun hHeld => ?_)
         clear hK K
         refine nm_ ?_
         exact norm_ (by simp only [putAll, Act.put, List.setIfInBounds_toArray, List.set_cons_zero, List.set_cons_succ]) (hCont (v116, v120, v123) _ ⟨(kR_ HO121), (by (with_reducible repeat (first | apply Kd.R_alloc | apply Kd.R_drewN | apply Kd.R_drew)); exact Kd.R_mono HO124.out (fun _ hk => hk.2)), (bl_)⟩)
     · skip
       refine Kd.R_lit_step Kd.string _ 9 ?hg (N := 39) ?hd (xs := ([a1] : List ByteArray)) (inner := [.string a1]) (ok := fun _ => True) (okp := fun _ => True) ?hr ?hp (fun _ hk => hk) trivial (Below.refl _ _) (Nat.le_refl _) (by simp) ?_; (case hd => rfl); (case hg => rfl); (case hr => first | (go_simp; done) | (go_simp; rfl)); (case hp => exact (Reps.one (show Kd.M Kd.string _ _ _ a1 [.string a1] from rfl) (Reps.none _ _)))
       intro v123 w22 ho23 hb hg_ hnew_
       clear hg_ hnew_
       (first | rw [← Ny122.out] at ho23 | (simp only [Int.reduceToNat] at ho23; rw [← Ny122.out] at ho23))
       have HO124 := Aside0.mk (Kd.R_lower ho23 (below_size (bl_)))
       replace HB := Aside0.mk (below_step (bl_) hb)
       clear hb ho23
       refine hK.out _ _ trivial (fun hHeld => ?_)
       clear hK K
       refine nm_ ?_
       refine sn_ 0 (some 33) (bm 13 1903) HT_ (fun K hK => ?_)
       refine Kd.R_lit_step Kd.string _ 9 ?hg (N := 33) ?hd (xs := ([] : List ByteArray)) (inner := []) (ok := fun _ => True) (okp := fun _ => True) ?hr ?hp (fun _ hk => hk) trivial (Below.refl _ _) (Nat.le_refl _) (by simp) ?_; (case hd => rfl); (case hg => rfl); (case hr => first | (go_simp; done) | (go_simp; rfl)); (case hp => exact (Reps.none _ _))
       intro v116 w24 ho25 hb hg_ hnew_
       clear hg_ hnew_
       (first | rw [← Ny115.out] at ho25 | (simp only [Int.reduceToNat] at ho25; rw [← Ny115.out] at ho25))
       have HO117 := Aside0.mk (Kd.R_lower (Kd.R_new' ho25 (Kd.R_lt (kR_ HO124))) (below_size (bl_)))
       replace HO124 := Aside0.mk (Kd.R_elder' (kR_ HO124) (Kd.R_base ho25) hb)
       replace HB := Aside0.mk (below_step (bl_) hb)
       clear hb ho25
       refine hK.out _ _ trivial (fun hHeld => ?_)
       clear hK K
       refine nm_ ?_
       refine sn_ 4 (some 37) (bm 13 1919) HT_ (fun K hK => ?_)
       refine Kd.R_append_rows_step Kd.string (w0 := w) w.heap.size (by rfl) (.tmp 33) (.tmp 36) 29 9 (.string ⟨#[]⟩) 16 rfl Try.underlying29 info9 rfl (by decide) (by omega) v116 y115 (l0.take (x5_1 : Int).toNat) _ _ _ (fun k_ => some k_ ≠ (v123 : Value).ownBlock) (fun _ => False) rfl rfl ?aO ?aR (fun _ _ h => h) (fun _ h => h.elim) ?aF ?aB ?aS ?aL ?_
       (case aR => first | (refine (congrArg (fun m_ => ReadsRow _ _ _ _ m_ _) (show (l0.take (x5_1 : Int).toNat).length = x5_1.toNat from (by rw [List.length_take]; have h_ : (x5_1 : Int) ≤ (l0.length : Int) := od_; omega))).mp ?_; repeat (first | exact (Kd.C_below HR118.out HB.out) | (with_reducible refine Kd.C_alloc ?_ _) | (with_reducible refine Kd.C_drewN ?_ _) | (with_reducible refine Kd.C_drew ?_))) | (repeat (first | exact (Kd.C_below HR118.out HB.out) | (with_reducible refine Kd.C_alloc ?_ _) | (with_reducible refine Kd.C_drewN ?_ _) | (with_reducible refine Kd.C_drew ?_))))
       (case aB => exact (bl_))
       (case aF => exact (fun k_ hk => Kd.fresh' (Kd.R_lt (kR_ HO124)) k_ hk))
       (case aO => exact (by (with_reducible repeat (first | apply Kd.R_alloc | apply Kd.R_drewN | apply Kd.R_drew)); exact Kd.R_mono HO117.out (fun _ hk => hk.2)))
       (case aS => exact (below_size (bl_)))
       (case aL => have := LMc14.out; have hlx_ := (show (l0.take (x5_1 : Int).toNat).length = x5_1.toNat from (by rw [List.length_take]; have h_ : (x5_1 : Int) ≤ (l0.length : Int) := od_; omega)); omega)
       intro v120 w26 ho hb hg hat
       rw [← Ny119.out] at ho
       replace HO124 := Aside0.mk (Kd.R_after (ok := (fun _ => True)) (kR_ HO124) hg hat)
       replace HB := Aside0.mk (hb)
       have HO121 := Aside0.mk (ho)
       clear HO117
       clear ho hb hg hat
       refine hK.out _ _ trivial (fun hHeld => ?_)
       clear hK K
       refine nm_ ?_
       exact norm_ (by simp only [putAll, Act.put, List.setIfInBounds_toArray, List.set_cons_zero, List.set_cons_succ]) (hCont (v116, v120, v123) _ ⟨(kR_ HO121), (by (with_reducible repeat (first | apply Kd.R_alloc | apply Kd.R_drewN | apply Kd.R_drew)); exact Kd.R_mono HO124.out (fun _ hk => hk.2)), (bl_)⟩)
   rintro ⟨v116, v120, v123⟩ w27 ⟨h0_, h1_, h2_⟩
   have n0_ : Aside0 (Kd.R Kd.string 9 w27 w.heap.size (fun k_ => some k_ ≠ (v123 : Value).ownBlock) v120 y119) := ⟨h0_⟩
   have n1_ : Aside0 (Kd.R Kd.string 9 w27 w.heap.size (fun k_ => some k_ ≠ (v120 : Value).ownBlock) v123 y122) := ⟨h1_⟩
   have n2_ : Aside0 (Below w.heap.size w w27) := ⟨h2_⟩
   clear HB
   clear h0_ h1_ h2_
   have HO121 := n0_
   have HO124 := n1_
   have HB := n2_
   clear n0_ n1_ n2_
   have hHeld := trivial
   obtain ⟨Ao29, co29, eo29⟩ := Kd.R_slice HO124.out
   (first | subst eo29 | (injection eo29 with f1_ f2_ f3_; have f4_ := f1_.symm; have f5_ := f3_.symm; clear f1_ f2_ f3_; subst f4_; subst f5_))
   refine norm_ (a' := ?_) ?_ ?_
   rotate_left
   · simp only [putAll, Act.put, List.setIfInBounds_toArray, List.set_cons_zero, List.set_cons_succ]
     rfl
   refine sn_ 7 (some 40) (bm 13 2047) HT_ (fun K hK => ?_)
   refine Kd.R_append_rows_step Kd.string (w0 := w) w.heap.size (by rfl) (.tmp 37) (.tmp 39) 29 9 (.string ⟨#[]⟩) 16 rfl Try.underlying29 info9 rfl (by decide) (by omega) v120 y119 y122 _ _ _ (fun k_ => some k_ ≠ (.slice Ao29 y122.length co29 : Value).ownBlock) (fun _ => False) rfl rfl ?aO ?aR (fun _ _ h => h) (fun _ h => h.elim) ?aF ?aB ?aS ?aL ?_
   (case aR => exact cr_ HO124)
   (case aB => exact (bl_))
   (case aF => exact (fun k_ hk => Kd.fresh' (Kd.R_lt (kR_ HO124)) k_ hk))
   (case aO => exact (kR_ HO121))
   (case aS => exact (below_size (bl_)))
   (case aL => have := LMc15.out; omega)
   intro v126 w28 ho hb hg hat
   rw [← Ny125.out] at ho
   replace HO124 := Aside0.mk (Kd.R_after (ok := (fun _ => True)) (by (with_reducible repeat (first | apply Kd.R_alloc | apply Kd.R_drewN | apply Kd.R_drew)); exact Kd.R_mono HO124.out (fun _ hk => ⟨trivial, hk⟩)) hg hat)
   replace HB := Aside0.mk (hb)
   have HO127 := Aside0.mk (ho)
   clear HO121
   clear ho hb hg hat
   refine hK.out _ _ trivial (fun hHeld => ?_)
   clear hK K
   refine nm_ ?_
   refine sn_ 11 (some 44) (bm 13 4095) HT_ (fun K hK => ?_)
   refine Kd.R_append_rows_step Kd.string (w0 := w) w.heap.size (by rfl) (.tmp 40) (.tmp 43) 29 9 (.string ⟨#[]⟩) 16 rfl Try.underlying29 info9 rfl (by decide) (by omega) v126 y125 (l0.drop (x5_1 : Int).toNat) _ _ _ (fun k_ => some k_ ≠ (.slice Ao29 y122.length co29 : Value).ownBlock) (fun _ => False) rfl rfl ?aO ?aR (fun _ _ h => h) (fun _ h => h.elim) ?aF ?aB ?aS ?aL ?_
   (case aR => first | (rw [← show (l0.drop (x5_1 : Int).toNat).length = (l0.length - x5_1.toNat) from List.length_drop]; repeat (first | exact (Kd.C_below HR128.out HB.out) | (with_reducible refine Kd.C_alloc ?_ _) | (with_reducible refine Kd.C_drewN ?_ _) | (with_reducible refine Kd.C_drew ?_))) | (repeat (first | exact (Kd.C_below HR128.out HB.out) | (with_reducible refine Kd.C_alloc ?_ _) | (with_reducible refine Kd.C_drewN ?_ _) | (with_reducible refine Kd.C_drew ?_))))
   (case aB => exact (bl_))
   (case aF => exact (fun k_ hk => Kd.fresh' (Kd.R_lt (kR_ HO124)) k_ hk))
   (case aO => exact (kR_ HO127))
   (case aS => exact (below_size (bl_)))
   (case aL => have := LMc18.out; have hlx_ := (show (l0.drop (x5_1 : Int).toNat).length = (l0.length - x5_1.toNat) from List.length_drop); omega)
   intro v130 w30 ho hb hg hat
   rw [← Ny129.out] at ho
   replace HO124 := Aside0.mk (Kd.R_after (ok := (fun _ => True)) (kR_ HO124) hg hat)
   replace HB := Aside0.mk (hb)
   have HO131 := Aside0.mk (ho)
   clear HO127
   clear ho hb hg hat
   refine hK.out _ _ trivial (fun hHeld => ?_)
   clear hK K
   refine nm_ ?_
   refine sp_ 12 (some 4) (bm 13 8191) HT_ (h := ?_)
   refine done_ (done_of HT_.out (by kernel_rfl)) ?_
   try go_wp2
   go_ret
   exact ⟨_, rfe_, .inr (by (with_reducible repeat (first | apply Kd.R_alloc | apply Kd.R_drewN | apply Kd.R_drew)); exact Kd.R_mono HO131.out (fun _ hk => trivial)), bl_⟩

/-- The same of a list of the caller's own, handed over. -/
theorem spec_l1Put.calls (k : Nat) (P0_ : Nat → Prop) (u9000_ : Value) (l0 : List ByteArray) (a1 : ByteArray) (r : List ByteArray) (w0 w : World) (hB : Below w0.heap.size w0 w) (ho0 : Kd.R Kd.string 9 w w0.heap.size P0_ u9000_ l0) (h : spec_l1Put.f k l0 a1 = some r) :
 Calls Try.prog 54 #[u9000_, .string a1] w fun e w' => ∃ v0_ : Value, e = .returned (v0_) ∧ Kd.R Kd.string 9 w' w0.heap.size (fun k_ => (P0_ k_ ∨ w.heap.size ≤ k_)) v0_ r ∧ Below w0.heap.size w0 w' ∧ Kept w w' (fun k_ => P0_ k_) := by
 obtain ⟨A, c, e⟩ := Kd.R_slice ho0
 subst e
 refine (spec_l1Put.callsC k A c l0 a1 r w (Kd.R_reads' ho0).2.2 (Kd.R_reads' ho0).2.1 h).mono ?_
 rintro e w' ⟨v, rfl, hv, hb⟩
 refine ⟨v, rfl, ?_, below_then hB hB.size hb, Kept.below (S := fun k_ => P0_ k_) (Kept.refl w _) hb⟩
 rcases hv with ⟨rfl, rfl⟩ | hR
 · exact Kd.R_mono (Kd.R_below ho0 hb) (fun _ h => .inl h)
 · exact Kd.R_mono (Kd.R_lower (Kd.R_bound hR) hB.size) (fun _ h => .inr h.2.1)

end Go.Proofs.Ytbopiacjioedeaa.P
