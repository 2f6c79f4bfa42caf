-- Written by a program of this session (wip/gen/gen.py) out of Lean's print of the loaded program; Lean checks it.
import Derived.Test.YtbopiacjioedeaaP0
import Derived.Test.YtbopiacjioedeaaSq2
import Derived.Laws.Cover3
import Derived.Test.YtbopiacjioedeaaP3
import Derived.Test.YtbopiacjioedeaaP4
import Derived.Test.YtbopiacjioedeaaP5
import Derived.Test.YtbopiacjioedeaaP6
import Derived.Test.YtbopiacjioedeaaTab
namespace Go.Proofs.Ytbopiacjioedeaa.P
open Go.RowKit Go.Proofs.YtbopiacjioedeaaW.PrintWords Go.Proofs.YtbopiacjioedeaaW.PrintLast Go.Proofs.YtbopiacjioedeaaW.PrintMore
attribute [local go_sem] max2_int min2_int max_two min_two max_three min_three max_four min_four IntKind.wrap_u8 IntKind.wrap_u32 w64_256 w64_u32
set_option maxHeartbeats 8000000
set_option maxRecDepth 100000
set_option linter.unusedVariables false
set_option linter.unusedSimpArgs false

/-! ### impl_Book_words: function 23 -/
def impl_Book_words.l0 : Nat → List ByteArray → List (S73) → Int → Int → List (S68) → List (S73) → Option (List ByteArray)
 | 0, _, _, _, _, _, _ => none
 | k + 1, x3, x8, x9, x10, x192000, x192001 => if x10 < x9 then (if 0 ≤ x10 then (if x10 < (x8.length : Int) then ((impl_Forms.f k x192000 ((rd_T73 x8 x10).f0) ((rd_T73 x8 x10).f1)).bind fun t197 => (if x3.length + t197.length < 8796093022208 then (impl_Book_words.l0 k (x3 ++ t197) x8 x9 (wrap64 (x10 + 1)) x192000 x192001) else (none))) else (none)) else (none)) else ((impl_sorted.f x3).bind fun t203 => (some t203))
def impl_Book_words.f (k : Nat) (l0_0 : List (S68)) (l0_1 : List (S73)) : Option (List ByteArray) := impl_Book_words.l0 k (([] : List ByteArray)) l0_1 (l0_1.length : Int) 0 l0_0 l0_1
theorem impl_Book_words.mono_l : ∀ k, (∀ y0 y1 y2 y3 y4 y5, LeO (impl_Book_words.l0 k y0 y1 y2 y3 y4 y5) (impl_Book_words.l0 (k + 1) y0 y1 y2 y3 y4 y5))
 | 0 => fun _ _ _ _ _ _ r h => by simp [impl_Book_words.l0] at h
 | k + 1 => by
  have ih0 := impl_Book_words.mono_l k
  · intro y0 y1 y2 y3 y4 y5
    unfold impl_Book_words.l0
    have m0 := @impl_Forms.mono
    exact mn_
theorem impl_Book_words.mono : ∀ a0 a1 k, LeO (impl_Book_words.f k a0 a1) (impl_Book_words.f (k + 1) a0 a1) := by
 intro a0 a1 k
 have ih0 := impl_Book_words.mono_l k
 unfold impl_Book_words.f
 have m0 := @impl_Forms.mono
 exact mn_
theorem impl_Book_words.calls (k : Nat) (A0_0 : Option Addr) (c0_0 : Nat) (l0_0 : List (S68)) (A0_1 : Option Addr) (c0_1 : Nat) (l0_1 : List (S73)) (r : List ByteArray) (w : World) (hr0_0 : Kd.C k68 w A0_0 l0_0.length l0_0) (hc0_0 : l0_0.length ≤ c0_0) (hr0_1 : Kd.C k73 w A0_1 l0_1.length l0_1) (hc0_1 : l0_1.length ≤ c0_1) (hT : Tab w) (h : impl_Book_words.f k l0_0 l0_1 = some r) :
 Calls Try.prog 23 #[.agg #[.slice A0_0 l0_0.length c0_0, .slice A0_1 l0_1.length c0_1]] w fun e w' => ∃ v0_ : Value, e = .returned (v0_) ∧ Kd.R Kd.string 9 w' w.heap.size (fun _ => True) v0_ r ∧ Below w.heap.size w w' := by
 have hu26 := Try.underlying26
 have hu73 := Try.underlying73
 have HR0_0 := Aside0.mk hr0_0
 have HC0_0 := Aside0.mk hc0_0
 clear hr0_0 hc0_0
 have HR0_1 := Aside0.mk hr0_1
 have HC0_1 := Aside0.mk hc0_1
 clear hr0_1 hc0_1
 have HTb := Aside0.mk hT
 clear hT
 have HB := Aside0.mk (Below.refl w.heap.size w)
 unfold impl_Book_words.f at h; have H := h; clear h
 obtain ⟨y192, hy_⟩ : ∃ y_ : List ByteArray, y_ = (([] : List ByteArray)) := ⟨_, rfl⟩
 replace H : (impl_Book_words.l0 k y192 l0_1 (l0_1.length : Int) 0 l0_0 l0_1) = some r := ry_
 have Ny192 := Aside0.mk hy_; clear hy_
 have H' := Aside0.mk H; clear H
 go_enter Try.func23, Try.ntmps23
 go_wp2_with (first | ((with_reducible refine gate_dst (N := 1) rfl ?_); refine be_ 1 26 #[.slice A0_0 l0_0.length c0_0, .slice A0_1 l0_1.length c0_1] ?_; intro gb191 hg w2 hbox hb; have BK191 := Aside0.mk (hbox); have GW191 := Aside0.mk ((gs_ hg : w.heap.size ≤ gb191)); have GE191 := Aside0.mk ((gs_ hg : w.heap.size ≤ gb191)); replace HB := Aside0.mk (below_step (bl_) hb); clear hb hbox hg) | ((with_reducible refine gate_dst (N := 6) rfl ?_); refine rl_ Kd.string 9 6 ([] : List ByteArray) [] ?_; intro v193 w3 ho4 hb hg_ hnew_; clear hg_ hnew_; (first | rw [← Ny192.out] at ho4 | (simp only [Int.reduceToNat, Int.toNat_natCast] at ho4; rw [← Ny192.out] at ho4)); have HO194 := Aside0.mk (Kd.R_lower ho4 (below_size (bl_))); replace BK191 := Aside0.mk (blk_below (bk_ BK191) hb); replace HB := Aside0.mk (below_step (bl_) hb); clear hb ho4; have hcz5_0 := bc0_ BK191; have hcz5_1 := bc1_ BK191; have hfz5_0 := blk_frozen BK191.out 0; have hfz5_1 := blk_frozen BK191.out 1))
 go_loopg [3, 10] k (fun kq v3 v10 w' => ∃ (x3_1 : List ByteArray) (x10_1 : Int), v10 = .int .i64 x10_1 ∧ Aside0 (impl_Book_words.l0 kq x3_1 l0_1 (l0_1.length : Int) x10_1 l0_0 l0_1 = some r) ∧ Aside0 (kq ≤ k) ∧ Aside0 (Kd.R Kd.string 9 w' w.heap.size (fun _ => True) v3 x3_1) ∧ Aside0 (w'.heap[gb191]? = some (.cells #[(.slice A0_0 l0_0.length c0_0), (.slice A0_1 l0_1.length c0_1)] 26 (0, 0))) ∧ Aside0 (Below w.heap.size w w'))
 case atStart => exact ⟨(y192), (0), rf_, H', ⟨Nat.le_refl _⟩, ⟨kR_ HO194⟩, ⟨by (with_reducible repeat (first | refine blk_drewN ?_ _ | refine blk_drew ?_ | refine blk_alloc ?_ _)); exact BK191.out⟩, ⟨bl_⟩⟩
 case round =>
  clear H'
  (try clear c2);(try clear p2);(try clear hcz5_0);(try clear hcz5_1);(try clear hfz5_0);(try clear hfz5_1)
  obtain ⟨x3_1, x10_1, rfl, HA, HK1, HO_3, BK191, HB⟩ := hrel
  cases gk with
  | zero => exact absurd HA.out (by simp [impl_Book_words.l0])
  | succ k1 =>
   have H := HA.out
   clear HA
   simp only [impl_Book_words.l0] at H
   replace H := iudd_ H; rcases H with ⟨c6b0, H⟩ | ⟨c6b0, H⟩
   · replace H := Option.bind_eq_some_iff.mp H
     obtain ⟨t203, A180, H⟩ := H; try dsimp only at H
     have A18 := Aside0.mk A180
     clear A180
     obtain rfl := Option.some.inj H
     obtain ⟨Ao19, co19, eo19⟩ := Kd.R_slice HO_3.out
     subst eo19
     go_wp2_with (first | ((with_reducible refine gate_callee (f := 48) rfl ?_); refine gl_ 22 Try.func48 #[.slice Ao19 x3_1.length co19] ?_; (with_reducible refine (impl_sorted.calls _ _ x3_1 t203 _ ?side1 ?side2 A18.out).mono ?_); (case side1 => exact cr_ HO_3); (case side2 => exact (Kd.R_reads' HO_3.out).2.1); rintro e w20 ⟨v204, rfl, ho0, hb⟩; refine ⟨_, rfl, ?_⟩; have HO205 := Aside0.mk (Kd.R_lower (Kd.R_new' ho0 (Kd.R_lt (kR_ HO_3))) (below_size (bl_))); replace HO_3 := Aside0.mk (Kd.R_elder' (kR_ HO_3) (Kd.R_base ho0) hb); replace BK191 := Aside0.mk (blk_below (bk_ BK191) hb); replace HB := Aside0.mk (below_step (bl_) hb); (try clear hb); (try clear hb2); (try clear hk); (try clear hi); (try clear ho0)))
     go_ret
     exact ⟨_, rfe_, by (with_reducible repeat (first | apply Kd.R_alloc | apply Kd.R_drewN | apply Kd.R_drew)); exact Kd.R_mono HO205.out (fun _ hk => trivial), bl_⟩
   replace H := ind_ H; obtain ⟨c7b0, H⟩ := H
   replace H := ind_ H; obtain ⟨c8b0, H⟩ := H
   replace H := Option.bind_eq_some_iff.mp H
   obtain ⟨t197, A90, H⟩ := H; try dsimp only at H
   have A9 := Aside0.mk A90
   clear A90
   replace H := inc_ H; obtain ⟨c10, H⟩ := H
   have LMc10 := Aside0.mk c10
   clear c10
   obtain ⟨y200, hy_⟩ : ∃ y_ : List ByteArray, y_ = (x3_1 ++ t197) := ⟨_, rfl⟩
   replace H : (impl_Book_words.l0 k1 y200 l0_1 (l0_1.length : Int) (wrap64 (x10_1 + 1)) l0_0 l0_1) = some r := ry_
   have Ny200 := Aside0.mk hy_; clear hy_
   have H' := Aside0.mk H; clear H
   have p195 : 0 ≤ (x10_1 : Int) := od_
   have q195 : x10_1 < (l0_1.length : Int) := od_
   obtain ⟨ad195, e195, hx195_0, hx195_1⟩ := at_T73 HR0_1.out x10_1 p195 q195
   cases e195
   replace hx195_0 := hc_ HB hx195_0
   replace hx195_1 := hc_ HB hx195_1
   replace p195 := eq_true p195; replace q195 := eq_true q195
   go_wp2_with (first | ((with_reducible refine gate_dst (N := 5) rfl ?_); refine be_ 5 73 #[.string (⟨#[]⟩ : ByteArray), .string (⟨#[]⟩ : ByteArray)] ?_; intro gb196 hg w11 hbox hb; replace HO_3 := Aside0.mk (Kd.R_below (kR_ HO_3) hb); have BK196 := Aside0.mk (hbox); have GW196 := Aside0.mk ((gs_ hg : w.heap.size ≤ gb196)); have GE196 := Aside0.mk ((gs_ hg : w.heap.size ≤ gb196)); replace HB := Aside0.mk (below_step (bl_) hb); have NB191_196 := Aside0.mk ((by rw [hg]; exact Nat.ne_of_lt (blk_lt (bk_ BK191)) : gb191 ≠ gb196)); have NB196_191 := Aside0.mk ((by rw [hg]; exact Nat.ne_of_gt (blk_lt (bk_ BK191)) : gb196 ≠ gb191)); replace BK191 := Aside0.mk (blk_below (bk_ BK191) hb); clear hb hbox hg; have hnb12 := NB196_191.out; have hnc12 := NB191_196.out; have hcz13_0 := bc0_ BK196; have hcz13_1 := bc1_ BK196; have hfz13_0 := blk_frozen BK196.out 0; have hfz13_1 := blk_frozen BK196.out 1; have hcz14_0 := bc0_ BK191; have hcz14_1 := bc1_ BK191; have hfz14_0 := blk_frozen BK191.out 0; have hfz14_1 := blk_frozen BK191.out 1) | ((with_reducible refine gate_callee (f := 47) rfl ?_); refine gl_ 18 Try.func47 #[.slice A0_0 l0_0.length c0_0, .agg #[.string ((rd_T73 l0_1 x10_1).f0), .string ((rd_T73 l0_1 x10_1).f1)]] ?_; (with_reducible refine (impl_Forms.calls k1 _ _ l0_0 ((rd_T73 l0_1 x10_1).f0) ((rd_T73 l0_1 x10_1).f1) t197 _ ?side1 ?side2 ?side3 A9.out).mono ?_); (case side1 => exact Kd.C_below HR0_0.out (bl_)); (case side2 => exact HC0_0.out); (case side3 => exact tab_below HTb.out (bl_)); rintro e w15 ⟨v198, rfl, ho0, hb⟩; refine ⟨_, rfl, ?_⟩; have HO199 := Aside0.mk (Kd.R_lower (Kd.R_new' ho0 (Kd.R_lt (by (with_reducible repeat (first | apply Kd.R_alloc | apply Kd.R_drewN | apply Kd.R_drew)); exact (Kd.R_mono (Kd.R_far (p := ⟨gb196, 1, none⟩) (Kd.R_far (p := ⟨gb196, 0, none⟩) (Kd.R_types HO_3.out BK196.out (by decide)) (fun _ hk => hk.2) (.string ((rd_T73 l0_1 x10_1).f0))) (fun _ hk => hk.2) (.string ((rd_T73 l0_1 x10_1).f1))) (fun _ h_ => h_.1))))) (below_size (bl_))); replace HO_3 := Aside0.mk (Kd.R_elder' (by (with_reducible repeat (first | apply Kd.R_alloc | apply Kd.R_drewN | apply Kd.R_drew)); exact (Kd.R_mono (Kd.R_far (p := ⟨gb196, 1, none⟩) (Kd.R_far (p := ⟨gb196, 0, none⟩) (Kd.R_types HO_3.out BK196.out (by decide)) (fun _ hk => hk.2) (.string ((rd_T73 l0_1 x10_1).f0))) (fun _ hk => hk.2) (.string ((rd_T73 l0_1 x10_1).f1))) (fun _ h_ => h_.1))) (Kd.R_base ho0) hb); replace BK191 := Aside0.mk (blk_below (g := gb191) (o := .cells #[.slice A0_0 l0_0.length c0_0, .slice (some ad195) l0_1.length c0_1] 26 (0, 0)) bq_ hb); replace BK196 := Aside0.mk (blk_below (g := gb196) (o := .cells #[.string ((rd_T73 l0_1 x10_1).f0), .string ((rd_T73 l0_1 x10_1).f1)] 73 (0, 0)) bq_ hb); replace HB := Aside0.mk (below_step (bl_) hb); (try clear hb); (try clear hb2); (try clear hk); (try clear hi); (try clear ho0); obtain ⟨Ao17, co17, eo17⟩ := Kd.R_slice HO199.out; subst eo17) | ((with_reducible refine gate_builtin (b := .append) (xs := #[.tmp 14, .tmp 18]) rfl ?_); at_builtin; refine Kd.R_append_rows Kd.string (w0 := w) w.heap.size rfl (.tmp 14) (.tmp 18) 29 9 (.string ⟨#[]⟩) 16 rfl Try.underlying29 info9 rfl (by decide) (by omega) u3 x3_1 t197 _ _ _ (fun k_ => some k_ ≠ (.slice Ao17 t197.length co17 : Value).ownBlock) (fun _ => False) rfl rfl ?aO ?aR (fun _ _ h => h) (fun _ h => h.elim) ?aF ?aB ?aS ?aL ?_; (case aR => exact cr_ HO199); (case aB => exact (bl_)); (case aF => exact (fun k_ hk => Kd.fresh' (Kd.R_lt (kR_ HO199)) k_ hk)); (case aO => exact (by (with_reducible repeat (first | apply Kd.R_alloc | apply Kd.R_drewN | apply Kd.R_drew)); exact Kd.R_mono HO_3.out (fun _ hk => hk.2))); (case aS => exact (below_size (bl_))); (case aL => have := LMc10.out; omega); intro v201 w16 ho hb hg hat; rw [← Ny200.out] at ho; replace BK191 := Aside0.mk (blk_grown (bk_ BK191) hg (Kd.R_ne HO_3.out BK191.out (by decide))); replace BK196 := Aside0.mk (blk_grown (bk_ BK196) hg (Kd.R_ne HO_3.out BK196.out (by decide))); replace HO199 := Aside0.mk (Kd.R_after (ok := (fun _ => True)) (kR_ HO199) hg hat); replace HB := Aside0.mk (hb); have HO202 := Aside0.mk (ho); clear HO_3; clear ho hb hg hat))
   go_roundg k1
   case measure => have := HK1.out; omega
   case rel => exact ⟨(y200), (wrap64 (x10_1 + 1)), rf_, H', ⟨by have := HK1.out; omega⟩, ⟨by (with_reducible repeat (first | apply Kd.R_alloc | apply Kd.R_drewN | apply Kd.R_drew)); exact Kd.R_mono HO202.out (fun _ hk => trivial)⟩, ⟨by (with_reducible repeat (first | refine blk_drewN ?_ _ | refine blk_drew ?_ | refine blk_alloc ?_ _)); exact BK191.out⟩, ⟨bl_⟩⟩

/-! ### slices_Index_string_string: function 55 -/
def slices_Index_string_string.l0 : Nat → List ByteArray → ByteArray → Int → Int → Option (Int)
 | 0, _, _, _, _ => none
 | k + 1, x0, x1, x7, x8 => if x8 < x7 then (if 0 ≤ x8 then (if x8 < (x0.length : Int) then (if x1.toList = (rdOf ByteArray.empty x0 x8).toList then (some x8) else (slices_Index_string_string.l0 k x0 x1 x7 (wrap64 (x8 + 1)))) else (none)) else (none)) else (some (-1))
def slices_Index_string_string.f (k : Nat) (l0 : List ByteArray) (a1 : ByteArray) : Option (Int) := slices_Index_string_string.l0 k l0 a1 (l0.length : Int) 0
theorem slices_Index_string_string.mono_l : ∀ k, (∀ y0 y1 y2 y3, LeO (slices_Index_string_string.l0 k y0 y1 y2 y3) (slices_Index_string_string.l0 (k + 1) y0 y1 y2 y3))
 | 0 => fun _ _ _ _ r h => by simp [slices_Index_string_string.l0] at h
 | k + 1 => by
  have ih0 := slices_Index_string_string.mono_l k
  · intro y0 y1 y2 y3
    unfold slices_Index_string_string.l0
    exact mn_
theorem slices_Index_string_string.mono : ∀ a0 a1 k, LeO (slices_Index_string_string.f k a0 a1) (slices_Index_string_string.f (k + 1) a0 a1) := by
 intro a0 a1 k
 have ih0 := slices_Index_string_string.mono_l k
 unfold slices_Index_string_string.f
 exact mn_
theorem slices_Index_string_string.calls (k : Nat) (A0 : Option Addr) (c0 : Nat) (l0 : List ByteArray) (a1 : ByteArray) (r : Int) (w : World) (hr0 : Kd.C Kd.string w A0 l0.length l0) (hc0 : l0.length ≤ c0) (h : slices_Index_string_string.f k l0 a1 = some r) :
 Calls Try.prog 55 #[.slice A0 l0.length c0, .string a1] w fun e w' => e = .returned (.int .i64 r) ∧ Drawn0 w w' := by
 have HR0 := Aside0.mk hr0
 have HC0 := Aside0.mk hc0
 clear hr0 hc0
 unfold slices_Index_string_string.f at h; have H := h; clear h
 have H' := Aside0.mk H; clear H
 go_enter Try.func55, Try.ntmps55
 go_wp2
 go_loopg [8] k (fun kq v8 w' => ∃ (x8_1 : Int), v8 = .int .i64 x8_1 ∧ Aside0 (slices_Index_string_string.l0 kq l0 a1 (l0.length : Int) x8_1 = some r) ∧ Aside0 (kq ≤ k) ∧ Drawn0 w w')
 case atStart => exact ⟨(0), rf_, H', ⟨Nat.le_refl _⟩, dr_⟩
 case round =>
  clear H'
  try clear p2
  obtain ⟨x8_1, rfl, HA, HK1, ⟨m1, rfl⟩⟩ := hrel
  cases gk with
  | zero => exact absurd HA.out (by simp [slices_Index_string_string.l0])
  | succ k1 =>
   have H := HA.out
   clear HA
   simp only [slices_Index_string_string.l0] at H
   replace H := iudd_ H; rcases H with ⟨c3b0, H⟩ | ⟨c3b0, H⟩
   · obtain rfl := Option.some.inj H
     go_wp2
     go_ret
     exact ⟨rf_, dr_⟩
   replace H := ind_ H; obtain ⟨c4b0, H⟩ := H
   replace H := ind_ H; obtain ⟨c5b0, H⟩ := H
   replace H := itcc_ H; rcases H with ⟨c6, H⟩ | ⟨c6, H⟩
   · have c6b0 : (a1.toList == (rdOf ByteArray.empty l0 x8_1).toList) = true := beq_iff_eq.mpr c6
     have c6b1 : (a1.toList != (rdOf ByteArray.empty l0 x8_1).toList) = false := bne_eq_false_iff_eq.mpr c6
     clear c6
     obtain rfl := Option.some.inj H
     have p206 : 0 ≤ (x8_1 : Int) := od_
     have q206 : x8_1 < (l0.length : Int) := od_
     obtain ⟨ad206, e206, hx206_0⟩ := Kd.at_string HR0.out x8_1 p206 q206
     cases e206
     replace p206 := eq_true p206; replace q206 := eq_true q206
     go_wp2
     go_ret
     exact ⟨rf_, dr_⟩
   have c6b0 : (a1.toList == (rdOf ByteArray.empty l0 x8_1).toList) = false := beq_eq_false_iff_ne.mpr c6
   have c6b1 : (a1.toList != (rdOf ByteArray.empty l0 x8_1).toList) = true := bne_iff_ne.mpr c6
   have H' := Aside0.mk H; clear H
   have p206 : 0 ≤ (x8_1 : Int) := od_
   have q206 : x8_1 < (l0.length : Int) := od_
   obtain ⟨ad206, e206, hx206_0⟩ := Kd.at_string HR0.out x8_1 p206 q206
   cases e206
   replace p206 := eq_true p206; replace q206 := eq_true q206
   go_wp2
   go_roundg k1
   case measure => have := HK1.out; omega
   case rel => exact ⟨(wrap64 (x8_1 + 1)), rf_, H', ⟨by have := HK1.out; omega⟩, dr_⟩

/-! ### slices_Contains_string_string: function 29 -/
def slices_Contains_string_string.f (k : Nat) (l0 : List ByteArray) (a1 : ByteArray) : Option (Bool) := (slices_Index_string_string.f k l0 a1).bind fun t207 => (some (decide (t207 ≥ 0)))
theorem slices_Contains_string_string.mono : ∀ a0 a1 k, LeO (slices_Contains_string_string.f k a0 a1) (slices_Contains_string_string.f (k + 1) a0 a1) := by
 intro a0 a1 k
 unfold slices_Contains_string_string.f
 have m0 := @slices_Index_string_string.mono
 exact mn_
theorem slices_Contains_string_string.calls (k : Nat) (A0 : Option Addr) (c0 : Nat) (l0 : List ByteArray) (a1 : ByteArray) (r : Bool) (w : World) (hr0 : Kd.C Kd.string w A0 l0.length l0) (hc0 : l0.length ≤ c0) (h : slices_Contains_string_string.f k l0 a1 = some r) :
 Calls Try.prog 29 #[.slice A0 l0.length c0, .string a1] w fun e w' => e = .returned (.bool r) ∧ Drawn0 w w' := by
 have HR0 := Aside0.mk hr0
 have HC0 := Aside0.mk hc0
 clear hr0 hc0
 unfold slices_Contains_string_string.f at h; have H := h; clear h
 replace H := Option.bind_eq_some_iff.mp H
 obtain ⟨t207, A30, H⟩ := H; try dsimp only at H
 have A3 := Aside0.mk A30
 clear A30
 obtain rfl := Option.some.inj H
 go_enter Try.func29, Try.ntmps29
 go_wp2_with (first | ((with_reducible refine gate_callee (f := 55) rfl ?_); refine gl_ 7 Try.func55 #[.slice A0 l0.length c0, .string a1] ?_; (with_reducible refine (slices_Index_string_string.calls k _ _ l0 a1 t207 _ ?side1 ?side2 A3.out).mono ?_); (case side1 => repeat (first | exact HR0.out | (with_reducible refine Kd.C_alloc ?_ _) | (with_reducible refine Kd.C_drewN ?_ _) | (with_reducible refine Kd.C_drew ?_))); (case side2 => exact HC0.out); rintro e w' ⟨rfl, ⟨nd, rfl⟩⟩; refine ⟨_, rfl, ?_⟩))
 go_ret
 exact ⟨rf_, dr_⟩

/-- Nil, just if there is nothing in it. -/
theorem isN_ {t : List ByteArray} {A : Option Addr} {c e base : Nat} {ok : Nat → Prop} {w : World} (hn : t = [] → (Value.slice A t.length c) = .slice none 0 0) (ho : Aside0 (Kd.R Kd.string e w base ok (.slice A t.length c) t)) : A.isNone = ((t.length : Int) == 0) := by
 cases t with
 | nil =>
  have h := hn rfl
  injection h with h1
  subst h1
  rfl
 | cons x l =>
  obtain ⟨inner, h1, h2⟩ := Kd.R_own ho.out
  rcases h2 with ⟨_, h3⟩ | ⟨g, cap, cur, h3, _⟩
  · cases h3
  · injection h3 with h4
    subst h4
    simp
    omega
/-! ### impl_divided: function 24 -/
mutual
def impl_divided.l0 : Nat → List ByteArray → ByteArray → Int → Int → Option (List ByteArray)
 | 0, _, _, _, _ => none
 | k + 1, x0, x1, x2, x7 => if x7 ≤ (wrap64 ((x1.size : Int) - 3)) then (if 0 ≤ x7 then (if x7 ≤ (x1.size : Int) then ((slices_Contains_string_string.f k x0 (x1.extract 0 (x7 : Int).toNat)).bind fun t212 => (if t212 = true then ((impl_divided.f k x0 (x1.extract (x7 : Int).toNat x1.size) (wrap64 (x2 - 1))).bind fun t213 => (if (t213.length : Int) = 0 then (impl_divided.l0 k x0 x1 x2 (wrap64 (x7 + 1))) else ((some (([x1.extract 0 (x7 : Int).toNat] : List ByteArray) : List ByteArray)).bind fun y216 => (if y216.length + t213.length < 8796093022208 then (some (y216 ++ t213)) else (none))))) else (impl_divided.l0 k x0 x1 x2 (wrap64 (x7 + 1))))) else (none)) else (none)) else (some ([] : List ByteArray))
def impl_divided.f : Nat → List ByteArray → ByteArray → Int → Option (List ByteArray)
 | 0, _, _, _ => none
 | k + 1, l0, a1, a2 => if a2 = 1 then (if (a1.size : Int) ≥ 3 then ((slices_Contains_string_string.f k l0 a1).bind fun t208 => (if t208 = true then (some (([a1] : List ByteArray))) else (some ([] : List ByteArray)))) else (some ([] : List ByteArray))) else (impl_divided.l0 k l0 a1 a2 3)
end
theorem impl_divided.mono_l : ∀ k, (∀ y0 y1 y2, LeO (impl_divided.f k y0 y1 y2) (impl_divided.f (k + 1) y0 y1 y2)) ∧ (∀ y0 y1 y2 y3, LeO (impl_divided.l0 k y0 y1 y2 y3) (impl_divided.l0 (k + 1) y0 y1 y2 y3))
 | 0 => ⟨fun _ _ _ r h => by simp [impl_divided.f] at h, fun _ _ _ _ r h => by simp [impl_divided.l0] at h⟩
 | k + 1 => by
  obtain ⟨ih0, ih1⟩ := impl_divided.mono_l k
  refine ⟨?_, ?_⟩
  · intro y0 y1 y2
    unfold impl_divided.f
    have m0 := @slices_Contains_string_string.mono
    exact mn_
  · intro y0 y1 y2 y3
    unfold impl_divided.l0
    have m0 := @slices_Contains_string_string.mono
    exact mn_
theorem impl_divided.mono : ∀ a0 a1 a2 k, LeO (impl_divided.f k a0 a1 a2) (impl_divided.f (k + 1) a0 a1 a2) := by
 intro a0 a1 a2 k
 obtain ⟨ih0, ih1⟩ := impl_divided.mono_l k
 exact ih0 a0 a1 a2
theorem impl_divided.calls (k : Nat) : ∀ (A0 : Option Addr) (c0 : Nat) (l0 : List ByteArray) (a1 : ByteArray) (a2 : Int) (r : List ByteArray) (w : World) (hr0 : Kd.C Kd.string w A0 l0.length l0) (hc0 : l0.length ≤ c0) (h : impl_divided.f k l0 a1 a2 = some r),
 Calls Try.prog 24 #[.slice A0 l0.length c0, .string a1, .int .i64 a2] w fun e w' => ∃ v0_ : Value, e = .returned (v0_) ∧ (Kd.R Kd.string 9 w' w.heap.size (fun _ => True) v0_ r ∧ (r = [] → v0_ = .slice none 0 0)) ∧ Below w.heap.size w w' := by
 induction k using Nat.strongRecOn with
 | _ k ih =>
 intro A0 c0 l0 a1 a2 r w hr0 hc0 h
 cases k with
 | zero => exact absurd h (by simp [impl_divided.f])
 | succ k =>
 simp only [impl_divided.f] at h
 have hu_ := Try.underlying29
 have HR0 := Aside0.mk hr0
 have HC0 := Aside0.mk hc0
 clear hr0 hc0
 have HB := Aside0.mk (Below.refl w.heap.size w)
 have H : (if a2 = 1 then (if (a1.size : Int) ≥ 3 then ((slices_Contains_string_string.f k l0 a1).bind fun t208 => (if t208 = true then (some (([a1] : List ByteArray))) else (some ([] : List ByteArray)))) else (some ([] : List ByteArray))) else (impl_divided.l0 k l0 a1 a2 3)) = some r := h
 clear h
 replace H := itcc_ H; rcases H with ⟨c4, H⟩ | ⟨c4, H⟩
 · have c4b0 : (a2 == 1) = true := beq_iff_eq.mpr c4
   have c4b1 : (a2 != 1) = false := bne_eq_false_iff_eq.mpr c4
   clear c4
   replace H := iucc_ H; rcases H with ⟨c5, H⟩ | ⟨c5, H⟩
   · have c5b0 : decide (3 ≤ (a1.size : Int)) = false := decide_eq_false c5
     have c5b1 : decide (3 ≤ a1.size) = false := decide_eq_false (by omega)
     clear c5
     obtain rfl := Option.some.inj H
     go_enter Try.func24, Try.ntmps24
     go_wp2
     go_ret
     exact ⟨_, rfe_, ⟨by first | exact Kd.R_nil _ _ _ _ _ | exact Kd.N_nil _ _ _ _ _ | exact Kd.V_nil _ _ _ _ _ | exact Kd.Q_nil _ _ _ _ _ | exact Kd.S_nil _ _ _ _ _, (by first | rfl | exact (fun _ => rfl) | (intro h_; exact absurd (congrArg List.length h_) (by first | simp [Ny216.out, Ny209.out] | simp [Ny219.out, Ny209.out] | simp [Ny219.out, Ny216.out] | simp [Ny209.out] | simp [Ny216.out] | simp [Ny219.out])))⟩, bl_⟩
   have c5b0 : decide (3 ≤ (a1.size : Int)) = true := decide_eq_true c5
   have c5b1 : decide (3 ≤ a1.size) = true := decide_eq_true (by omega)
   clear c5
   replace H := Option.bind_eq_some_iff.mp H
   obtain ⟨t208, A60, H⟩ := H; try dsimp only at H
   have A6 := Aside0.mk A60
   clear A60
   replace H := iub_ H; rcases H with ⟨rfl, H⟩ | ⟨rfl, H⟩
   · obtain rfl := Option.some.inj H
     go_enter Try.func24, Try.ntmps24
     go_wp2_with (first | (go_at_call 29; (with_reducible refine (slices_Contains_string_string.calls k _ _ l0 a1 false _ ?side1 ?side2 A6.out).mono ?_); (case side1 => repeat (first | exact HR0.out | (with_reducible refine Kd.C_alloc ?_ _) | (with_reducible refine Kd.C_drewN ?_ _) | (with_reducible refine Kd.C_drew ?_))); (case side2 => exact HC0.out); rintro e w' ⟨rfl, ⟨nd, rfl⟩⟩))
     go_ret
     exact ⟨_, rfe_, ⟨by first | exact Kd.R_nil _ _ _ _ _ | exact Kd.N_nil _ _ _ _ _ | exact Kd.V_nil _ _ _ _ _ | exact Kd.Q_nil _ _ _ _ _ | exact Kd.S_nil _ _ _ _ _, (by first | rfl | exact (fun _ => rfl) | (intro h_; exact absurd (congrArg List.length h_) (by first | simp [Ny216.out, Ny209.out] | simp [Ny219.out, Ny209.out] | simp [Ny219.out, Ny216.out] | simp [Ny209.out] | simp [Ny216.out] | simp [Ny219.out])))⟩, bl_⟩
   obtain ⟨y209, hy_⟩ : ∃ y_ : List ByteArray, y_ = (([a1] : List ByteArray)) := ⟨_, rfl⟩
   replace H : (some y209) = some r := ry_
   have Ny209 := Aside0.mk hy_; clear hy_
   obtain rfl := Option.some.inj H
   go_enter Try.func24, Try.ntmps24
   go_wp2_with (first | (go_at_call 29; (with_reducible refine (slices_Contains_string_string.calls k _ _ l0 a1 true _ ?side1 ?side2 A6.out).mono ?_); (case side1 => repeat (first | exact HR0.out | (with_reducible refine Kd.C_alloc ?_ _) | (with_reducible refine Kd.C_drewN ?_ _) | (with_reducible refine Kd.C_drew ?_))); (case side2 => exact HC0.out); rintro e w' ⟨rfl, ⟨nd, rfl⟩⟩) | ((with_reducible refine gate_dst (N := 20) rfl ?_); refine rl_ Kd.string 9 20 ([a1] : List ByteArray) [.string a1] ?_; intro v210 w8 ho9 hb hg_ hnew_; clear hg_ hnew_; (first | rw [← Ny209.out] at ho9 | (simp only [Int.reduceToNat, Int.toNat_natCast] at ho9; rw [← Ny209.out] at ho9)); have HO211 := Aside0.mk (Kd.R_lower ho9 (below_size (bl_))); replace HB := Aside0.mk (below_step (bl_) hb); clear hb ho9))
   go_ret
   exact ⟨_, rfe_, ⟨kR_ HO211, (by first | rfl | exact (fun _ => rfl) | (intro h_; exact absurd (congrArg List.length h_) (by first | simp [Ny216.out, Ny209.out] | simp [Ny219.out, Ny209.out] | simp [Ny219.out, Ny216.out] | simp [Ny209.out] | simp [Ny216.out] | simp [Ny219.out])))⟩, bl_⟩
 have c4b0 : (a2 == 1) = false := beq_eq_false_iff_ne.mpr c4
 have c4b1 : (a2 != 1) = true := bne_iff_ne.mpr c4
 have H' := Aside0.mk H; clear H
 go_enter Try.func24, Try.ntmps24
 go_wp2
 go_loopg [7] k (fun kq v7 w' => ∃ (x7_1 : Int), v7 = .int .i64 x7_1 ∧ Aside0 (impl_divided.l0 kq l0 a1 a2 x7_1 = some r) ∧ Aside0 (kq ≤ k) ∧ Aside0 (Below w.heap.size w w'))
 case atStart => exact ⟨(3), rf_, H', ⟨Nat.le_refl _⟩, ⟨bl_⟩⟩
 case round =>
  clear H'
  (try clear c2);(try clear p2);(try clear c4);(try clear c4b0);(try clear c4b1);(try clear c5);(try clear c5b0);(try clear c5b1);(try clear c7)
  obtain ⟨x7_1, rfl, HA, HK1, HB⟩ := hrel
  cases gk with
  | zero => exact absurd HA.out (by simp [impl_divided.l0])
  | succ k1 =>
   have H := HA.out
   clear HA
   simp only [impl_divided.l0] at H
   replace H := iudd_ H; rcases H with ⟨c10b0, H⟩ | ⟨c10b0, H⟩
   · obtain rfl := Option.some.inj H
     go_wp2
     go_ret
     exact ⟨_, rfe_, ⟨by first | exact Kd.R_nil _ _ _ _ _ | exact Kd.N_nil _ _ _ _ _ | exact Kd.V_nil _ _ _ _ _ | exact Kd.Q_nil _ _ _ _ _ | exact Kd.S_nil _ _ _ _ _, (by first | rfl | exact (fun _ => rfl) | (intro h_; exact absurd (congrArg List.length h_) (by first | simp [Ny216.out, Ny209.out] | simp [Ny219.out, Ny209.out] | simp [Ny219.out, Ny216.out] | simp [Ny209.out] | simp [Ny216.out] | simp [Ny219.out])))⟩, bl_⟩
   replace H := inc_ H; obtain ⟨c11, H⟩ := H
   have c11b0 := eq_true c11
   have c11b1 : decide (0 ≤ x7_1) = true := decide_eq_true c11
   clear c11
   replace H := inc_ H; obtain ⟨c12, H⟩ := H
   have c12b0 := eq_true c12
   have c12b1 : decide (x7_1 ≤ (a1.size : Int)) = true := decide_eq_true c12
   clear c12
   replace H := Option.bind_eq_some_iff.mp H
   obtain ⟨t212, A130, H⟩ := H; try dsimp only at H
   have A13 := Aside0.mk A130
   clear A130
   replace H := iub_ H; rcases H with ⟨rfl, H⟩ | ⟨rfl, H⟩
   · have H' := Aside0.mk H
     clear H
     go_wp2_with (first | ((with_reducible refine gate_callee (f := 29) rfl ?_); refine gl_ 32 Try.func29 #[.slice A0 l0.length c0, .string (a1.extract 0 (x7_1 : Int).toNat)] ?_; (with_reducible refine (slices_Contains_string_string.calls k1 _ _ l0 (a1.extract 0 (x7_1 : Int).toNat) false _ ?side1 ?side2 A13.out).mono ?_); (case side1 => exact cb_ HR0); (case side2 => exact HC0.out); rintro e w' ⟨rfl, ⟨nd, rfl⟩⟩; refine ⟨_, rfl, ?_⟩))
     go_roundg k1
     case measure => have := HK1.out; omega
     case rel => exact ⟨(wrap64 (x7_1 + 1)), rf_, H', ⟨by have := HK1.out; omega⟩, ⟨bl_⟩⟩
   have c15b0 := eq_true (od_ : 0 ≤ x7_1)
   have c16b0 := eq_true (od_ : x7_1 ≤ (a1.size : Int))
   replace H := Option.bind_eq_some_iff.mp H
   obtain ⟨t213, A170, H⟩ := H; try dsimp only at H
   have A17 := Aside0.mk A170
   clear A170
   replace H := itcc_ H; rcases H with ⟨c18, H⟩ | ⟨c18, H⟩
   · have c18b0 : ((t213.length : Int) == 0) = true := beq_iff_eq.mpr c18
     have c18b1 : ((t213.length : Int) != 0) = false := bne_eq_false_iff_eq.mpr c18
     clear c18
     have H' := Aside0.mk H; clear H
     go_wp2_with (first | ((with_reducible refine gate_callee (f := 29) rfl ?_); refine gl_ 32 Try.func29 #[.slice A0 l0.length c0, .string (a1.extract 0 (x7_1 : Int).toNat)] ?_; (with_reducible refine (slices_Contains_string_string.calls k1 _ _ l0 (a1.extract 0 (x7_1 : Int).toNat) true _ ?side1 ?side2 A13.out).mono ?_); (case side1 => exact cb_ HR0); (case side2 => exact HC0.out); rintro e w' ⟨rfl, ⟨nd, rfl⟩⟩; refine ⟨_, rfl, ?_⟩) | ((with_reducible refine gate_callee (f := 24) rfl ?_); refine gl_ 40 Try.func24 #[.slice A0 l0.length c0, .string (a1.extract (x7_1 : Int).toNat a1.size), .int .i64 (wrap64 (a2 - 1))] ?_; (with_reducible refine (ih k1 (by have := HK1.out; omega) _ _ l0 (a1.extract (x7_1 : Int).toNat a1.size) (wrap64 (a2 - 1)) t213 _ ?side1 ?side2 A17.out).mono ?_); (case side1 => exact cb_ HR0); (case side2 => exact HC0.out); rintro e w19 ⟨v214, rfl, ⟨ho0, hn0_⟩, hb⟩; refine ⟨_, rfl, ?_⟩; have HO215 := Aside0.mk (Kd.R_lower ho0 (below_size (bl_))); replace HB := Aside0.mk (below_step (bl_) hb); (try clear hb); (try clear hb2); (try clear hk); (try clear hi); (try clear ho0); obtain ⟨Ao20, co20, eo20⟩ := Kd.R_slice HO215.out; subst eo20; have hA_ := isN_ hn0_ HO215))
     go_roundg k1
     case measure => have := HK1.out; omega
     case rel => exact ⟨(wrap64 (x7_1 + 1)), rf_, H', ⟨by have := HK1.out; omega⟩, ⟨bl_⟩⟩
   have c18b0 : ((t213.length : Int) == 0) = false := beq_eq_false_iff_ne.mpr c18
   have c18b1 : ((t213.length : Int) != 0) = true := bne_iff_ne.mpr c18
   have c18b2 : ¬ (t213 = []) := fun h_ => c18 (by rw [h_]; rfl)
   have c21b0 := eq_true (od_ : 0 ≤ x7_1)
   have c22b0 := eq_true (od_ : x7_1 ≤ (a1.size : Int))
   obtain ⟨y216, hy_⟩ : ∃ y_ : List ByteArray, y_ = (([a1.extract 0 (x7_1 : Int).toNat] : List ByteArray)) := ⟨_, rfl⟩
   replace H : (if y216.length + t213.length < 8796093022208 then (some (y216 ++ t213)) else (none)) = some r := ry_
   have Ny216 := Aside0.mk hy_; clear hy_
   replace H := inc_ H; obtain ⟨c23, H⟩ := H
   have LMc23 := Aside0.mk c23
   clear c23
   obtain ⟨y219, hy_⟩ : ∃ y_ : List ByteArray, y_ = (y216 ++ t213) := ⟨_, rfl⟩
   replace H : (some y219) = some r := ry_
   have Ny219 := Aside0.mk hy_; clear hy_
   obtain rfl := Option.some.inj H
   go_wp2_with (first | ((with_reducible refine gate_callee (f := 29) rfl ?_); refine gl_ 32 Try.func29 #[.slice A0 l0.length c0, .string (a1.extract 0 (x7_1 : Int).toNat)] ?_; (with_reducible refine (slices_Contains_string_string.calls k1 _ _ l0 (a1.extract 0 (x7_1 : Int).toNat) true _ ?side1 ?side2 A13.out).mono ?_); (case side1 => exact cb_ HR0); (case side2 => exact HC0.out); rintro e w' ⟨rfl, ⟨nd, rfl⟩⟩; refine ⟨_, rfl, ?_⟩) | ((with_reducible refine gate_callee (f := 24) rfl ?_); refine gl_ 40 Try.func24 #[.slice A0 l0.length c0, .string (a1.extract (x7_1 : Int).toNat a1.size), .int .i64 (wrap64 (a2 - 1))] ?_; (with_reducible refine (ih k1 (by have := HK1.out; omega) _ _ l0 (a1.extract (x7_1 : Int).toNat a1.size) (wrap64 (a2 - 1)) t213 _ ?side1 ?side2 A17.out).mono ?_); (case side1 => exact cb_ HR0); (case side2 => exact HC0.out); rintro e w24 ⟨v214, rfl, ⟨ho0, hn0_⟩, hb⟩; refine ⟨_, rfl, ?_⟩; have HO215 := Aside0.mk (Kd.R_lower ho0 (below_size (bl_))); replace HB := Aside0.mk (below_step (bl_) hb); (try clear hb); (try clear hb2); (try clear hk); (try clear hi); (try clear ho0); obtain ⟨Ao25, co25, eo25⟩ := Kd.R_slice HO215.out; subst eo25; have hA_ := isN_ hn0_ HO215) | ((with_reducible refine gate_dst (N := 46) rfl ?_); refine rl_ Kd.string 9 46 ([a1.extract 0 (x7_1 : Int).toNat] : List ByteArray) [.string (a1.extract 0 (x7_1 : Int).toNat)] ?_; intro v217 w26 ho27 hb hg_ hnew_; clear hg_ hnew_; (first | rw [← Ny216.out] at ho27 | (simp only [Int.reduceToNat, Int.toNat_natCast] at ho27; rw [← Ny216.out] at ho27)); have HO218 := Aside0.mk (Kd.R_lower (Kd.R_new' ho27 (Kd.R_lt (kR_ HO215))) (below_size (bl_))); replace HO215 := Aside0.mk (Kd.R_elder' (kR_ HO215) (Kd.R_base ho27) hb); replace HB := Aside0.mk (below_step (bl_) hb); clear hb ho27) | ((with_reducible refine gate_builtin (b := .append) (xs := #[.tmp 46, .tmp 47]) rfl ?_); at_builtin; refine Kd.R_append_rows Kd.string (w0 := w) w.heap.size rfl (.tmp 46) (.tmp 47) 29 9 (.string ⟨#[]⟩) 16 rfl Try.underlying29 info9 rfl (by decide) (by omega) v217 y216 t213 _ _ _ (fun k_ => some k_ ≠ (.slice Ao25 t213.length co25 : Value).ownBlock) (fun _ => False) rfl rfl ?aO ?aR (fun _ _ h => h) (fun _ h => h.elim) ?aF ?aB ?aS ?aL ?_; (case aR => exact cr_ HO215); (case aB => exact (bl_)); (case aF => exact (fun k_ hk => Kd.fresh' (Kd.R_lt (kR_ HO215)) k_ hk)); (case aO => exact (by (with_reducible repeat (first | apply Kd.R_alloc | apply Kd.R_drewN | apply Kd.R_drew)); exact Kd.R_mono HO218.out (fun _ hk => hk.2))); (case aS => exact (below_size (bl_))); (case aL => have := LMc23.out; omega); intro v220 w28 ho hb hg hat; rw [← Ny219.out] at ho; replace HO215 := Aside0.mk (Kd.R_after (ok := (fun _ => True)) (kR_ HO215) hg hat); replace HB := Aside0.mk (hb); have HO221 := Aside0.mk (ho); clear HO218; clear ho hb hg hat))
   go_ret
   exact ⟨_, rfe_, ⟨by (with_reducible repeat (first | apply Kd.R_alloc | apply Kd.R_drewN | apply Kd.R_drew)); exact Kd.R_mono HO221.out (fun _ hk => trivial), (by first | rfl | exact (fun _ => rfl) | (intro h_; exact absurd (congrArg List.length h_) (by first | simp [Ny216.out, Ny209.out] | simp [Ny219.out, Ny209.out] | simp [Ny219.out, Ny216.out] | simp [Ny209.out] | simp [Ny216.out] | simp [Ny219.out])))⟩, bl_⟩

/-! ### impl_PartsOf: function 6 -/
mutual
def impl_PartsOf.j0 : Nat → ByteArray → Bool → List (S68) → List (S73) → Option (List ByteArray)
 | 0, _, _, _, _ => none
 | k + 1, x1, x15, x223000, x223001 => if x15 = true then (some (([] : List ByteArray))) else ((impl_Book_words.f k x223000 x223001).bind fun t228 => (impl_PartsOf.l0 k x1 t228 2))
def impl_PartsOf.l0 : Nat → ByteArray → List ByteArray → Int → Option (List ByteArray)
 | 0, _, _, _ => none
 | k + 1, x1, x5, x6 => if x6 ≤ 3 then ((impl_divided.f k x5 x1 x6).bind fun t231 => (if (t231.length : Int) = 0 then (impl_PartsOf.l0 k x1 x5 (wrap64 (x6 + 1))) else (some t231))) else (some (([] : List ByteArray)))
end
def impl_PartsOf.f (k : Nat) (l0_0 : List (S68)) (l0_1 : List (S73)) (a1 : ByteArray) : Option (List ByteArray) := (impl_BookOk.f k l0_0 l0_1).bind fun t223 => (if t223 = true then ((impl_WordOk.f k a1).bind fun t224 => (impl_PartsOf.j0 k a1 (!t224) l0_0 l0_1)) else (impl_PartsOf.j0 k a1 true l0_0 l0_1))
theorem impl_PartsOf.mono_l : ∀ k, (∀ y0 y1 y2 y3, LeO (impl_PartsOf.j0 k y0 y1 y2 y3) (impl_PartsOf.j0 (k + 1) y0 y1 y2 y3)) ∧ (∀ y0 y1 y2, LeO (impl_PartsOf.l0 k y0 y1 y2) (impl_PartsOf.l0 (k + 1) y0 y1 y2))
 | 0 => ⟨fun _ _ _ _ r h => by simp [impl_PartsOf.j0] at h, fun _ _ _ r h => by simp [impl_PartsOf.l0] at h⟩
 | k + 1 => by
  obtain ⟨ih0, ih1⟩ := impl_PartsOf.mono_l k
  refine ⟨?_, ?_⟩
  · intro y0 y1 y2 y3
    unfold impl_PartsOf.j0
    have m0 := @impl_BookOk.mono
    have m1 := @impl_Book_words.mono
    have m2 := @impl_WordOk.mono
    have m3 := @impl_divided.mono
    exact mn_
  · intro y0 y1 y2
    unfold impl_PartsOf.l0
    have m0 := @impl_BookOk.mono
    have m1 := @impl_Book_words.mono
    have m2 := @impl_WordOk.mono
    have m3 := @impl_divided.mono
    exact mn_
theorem impl_PartsOf.mono : ∀ a0 a1 a2 k, LeO (impl_PartsOf.f k a0 a1 a2) (impl_PartsOf.f (k + 1) a0 a1 a2) := by
 intro a0 a1 a2 k
 obtain ⟨ih0, ih1⟩ := impl_PartsOf.mono_l k
 unfold impl_PartsOf.f
 have m0 := @impl_BookOk.mono
 have m1 := @impl_Book_words.mono
 have m2 := @impl_WordOk.mono
 have m3 := @impl_divided.mono
 exact mn_
theorem impl_PartsOf.calls (k : Nat) (A0_0 : Option Addr) (c0_0 : Nat) (l0_0 : List (S68)) (A0_1 : Option Addr) (c0_1 : Nat) (l0_1 : List (S73)) (a1 : ByteArray) (r : List ByteArray) (w : World) (hr0_0 : Kd.C k68 w A0_0 l0_0.length l0_0) (hc0_0 : l0_0.length ≤ c0_0) (hr0_1 : Kd.C k73 w A0_1 l0_1.length l0_1) (hc0_1 : l0_1.length ≤ c0_1) (hT : Tab w) (h : impl_PartsOf.f k l0_0 l0_1 a1 = some r) :
 Calls Try.prog 6 #[.agg #[.slice A0_0 l0_0.length c0_0, .slice A0_1 l0_1.length c0_1], .string a1] w fun e w' => ∃ v0_ : Value, e = .returned (v0_) ∧ Kd.R Kd.string 9 w' w.heap.size (fun _ => True) v0_ r ∧ Below w.heap.size w w' := by
 have hu_ := Try.underlying29
 have hu26 := Try.underlying26
 have HR0_0 := Aside0.mk hr0_0
 have HC0_0 := Aside0.mk hc0_0
 clear hr0_0 hc0_0
 have HR0_1 := Aside0.mk hr0_1
 have HC0_1 := Aside0.mk hc0_1
 clear hr0_1 hc0_1
 have HTb := Aside0.mk hT
 clear hT
 have HB := Aside0.mk (Below.refl w.heap.size w)
 unfold impl_PartsOf.f at h; have H := h; clear h
 have HC3 := Aside0.mk H
 clear H
 go_enter Try.func6, Try.ntmps6
 go_upto_region 1 with (first | ((with_reducible refine gate_dst (N := 2) rfl ?_); refine be_ 2 26 #[.slice A0_0 l0_0.length c0_0, .slice A0_1 l0_1.length c0_1] ?_; intro gb222 hg w4 hbox hb; have BK222 := Aside0.mk (hbox); have GW222 := Aside0.mk ((gs_ hg : w.heap.size ≤ gb222)); have GE222 := Aside0.mk ((gs_ hg : w.heap.size ≤ gb222)); replace HB := Aside0.mk (below_step (bl_) hb); clear hb hbox hg))
 (try simp only [Act.put, List.setIfInBounds_toArray, List.set_cons_zero, List.set_cons_succ])
 go_cut [15] (fun v15 wc => ∃ (kq : Nat) (x15_2 : Bool), v15 = .bool x15_2 ∧ Aside0 (impl_PartsOf.j0 kq a1 x15_2 l0_0 l0_1 = some r) ∧ Aside0 (kq ≤ k) ∧ Aside0 (wc.heap[gb222]? = some (.cells #[(.slice A0_0 l0_0.length c0_0), (.slice A0_1 l0_1.length c0_1)] 26 (0, 0))) ∧ Aside0 (Below w.heap.size w wc))
 case first =>
  have H := HC3.out
  clear HC3
  replace H := Option.bind_eq_some_iff.mp H
  obtain ⟨t223, A50, H⟩ := H; try dsimp only at H
  have A5 := Aside0.mk A50
  clear A50
  replace H := iub_ H; rcases H with ⟨rfl, H⟩ | ⟨rfl, H⟩
  · have H' := Aside0.mk H
    clear H
    have hcz10_0 := bc0_ BK222
    have hcz10_1 := bc1_ BK222
    have hfz10_0 := blk_frozen BK222.out 0
    have hfz10_1 := blk_frozen BK222.out 1
    go_wp2_with (first | ((with_reducible refine gate_callee (f := 21) rfl ?_); refine gl_ 9 Try.func21 #[.agg #[.slice A0_0 l0_0.length c0_0, .slice A0_1 l0_1.length c0_1]] ?_; (with_reducible refine (impl_BookOk.calls k _ _ l0_0 _ _ l0_1 false _ ?side1 ?side2 ?side3 ?side4 A5.out).mono ?_); (case side1 => exact cb_ HR0_0); (case side2 => exact HC0_0.out); (case side3 => exact cb_ HR0_1); (case side4 => exact HC0_1.out); rintro e w11 ⟨rfl, hb⟩; refine ⟨_, rfl, ?_⟩; replace BK222 := Aside0.mk (blk_below (bk_ BK222) hb); replace HB := Aside0.mk (below_step (bl_) hb); (try clear hb); (try clear hb2); (try clear hk); (try clear hi)))
    go_meet
    case rel => exact ⟨_, (true), rf_, H', ⟨by first | omega | exact Nat.le_refl _⟩, ⟨by (with_reducible repeat (first | refine blk_drewN ?_ _ | refine blk_drew ?_ | refine blk_alloc ?_ _)); exact BK222.out⟩, ⟨bl_⟩⟩
  replace H := Option.bind_eq_some_iff.mp H
  obtain ⟨t224, A70, H⟩ := H; try dsimp only at H
  have A7 := Aside0.mk A70
  clear A70
  have H' := Aside0.mk H; clear H
  have hcz8_0 := bc0_ BK222
  have hcz8_1 := bc1_ BK222
  have hfz8_0 := blk_frozen BK222.out 0
  have hfz8_1 := blk_frozen BK222.out 1
  go_wp2_with (first | ((with_reducible refine gate_callee (f := 21) rfl ?_); refine gl_ 9 Try.func21 #[.agg #[.slice A0_0 l0_0.length c0_0, .slice A0_1 l0_1.length c0_1]] ?_; (with_reducible refine (impl_BookOk.calls k _ _ l0_0 _ _ l0_1 true _ ?side1 ?side2 ?side3 ?side4 A5.out).mono ?_); (case side1 => exact cb_ HR0_0); (case side2 => exact HC0_0.out); (case side3 => exact cb_ HR0_1); (case side4 => exact HC0_1.out); rintro e w9 ⟨rfl, hb⟩; refine ⟨_, rfl, ?_⟩; replace BK222 := Aside0.mk (blk_below (bk_ BK222) hb); replace HB := Aside0.mk (below_step (bl_) hb); (try clear hb); (try clear hb2); (try clear hk); (try clear hi)) | (go_at_call 22; (with_reducible refine (impl_WordOk.calls k a1 t224 _ A7.out).mono ?_); rintro e w' ⟨rfl, ⟨nd, rfl⟩⟩))
  go_meet
  case rel => exact ⟨_, (!t224), rf_, H', ⟨by first | omega | exact Nat.le_refl _⟩, ⟨by (with_reducible repeat (first | refine blk_drewN ?_ _ | refine blk_drew ?_ | refine blk_alloc ?_ _)); exact BK222.out⟩, ⟨bl_⟩⟩
 case rest =>
  clear HC3
  (try clear c2);(try clear p2);(try clear c6);(try clear hcz10_0);(try clear hcz10_1);(try clear hcz8_0);(try clear hcz8_1);(try clear hfz10_0);(try clear hfz10_1);(try clear hfz8_0);(try clear hfz8_1)
  obtain ⟨kq, x15_2, rfl, HA, HJ2, BK222, HB⟩ := hcut
  cases kq with
  | zero => exact absurd HA.out (by simp [impl_PartsOf.j0])
  | succ kj2 =>
   have H := HA.out
   clear HA
   simp only [impl_PartsOf.j0] at H
   replace H := itb_ H; rcases H with ⟨rfl, H⟩ | ⟨rfl, H⟩
   · obtain ⟨y225, hy_⟩ : ∃ y_ : List ByteArray, y_ = (([] : List ByteArray)) := ⟨_, rfl⟩
     replace H : (some y225) = some r := ry_
     have Ny225 := Aside0.mk hy_; clear hy_
     obtain rfl := Option.some.inj H
     go_wp2_with (first | ((with_reducible refine gate_dst (N := 16) rfl ?_); refine rl_ Kd.string 9 16 ([] : List ByteArray) [] ?_; intro v226 w13 ho14 hb hg_ hnew_; clear hg_ hnew_; (first | rw [← Ny225.out] at ho14 | (simp only [Int.reduceToNat, Int.toNat_natCast] at ho14; rw [← Ny225.out] at ho14)); have HO227 := Aside0.mk (Kd.R_lower ho14 (below_size (bl_))); replace BK222 := Aside0.mk (blk_below (bk_ BK222) hb); replace HB := Aside0.mk (below_step (bl_) hb); clear hb ho14))
     go_ret
     exact ⟨_, rfe_, kR_ HO227, bl_⟩
   replace H := Option.bind_eq_some_iff.mp H
   obtain ⟨t228, A150, H⟩ := H; try dsimp only at H
   have A15 := Aside0.mk A150
   clear A150
   have H' := Aside0.mk H; clear H
   have hcz16_0 := bc0_ BK222
   have hcz16_1 := bc1_ BK222
   have hfz16_0 := blk_frozen BK222.out 0
   have hfz16_1 := blk_frozen BK222.out 1
   go_wp2_with (first | ((with_reducible refine gate_callee (f := 23) rfl ?_); refine gl_ 18 Try.func23 #[.agg #[.slice A0_0 l0_0.length c0_0, .slice A0_1 l0_1.length c0_1]] ?_; (with_reducible refine (impl_Book_words.calls kj2 _ _ l0_0 _ _ l0_1 t228 _ ?side1 ?side2 ?side3 ?side4 ?side5 A15.out).mono ?_); (case side1 => exact cb_ HR0_0); (case side2 => exact HC0_0.out); (case side3 => exact cb_ HR0_1); (case side4 => exact HC0_1.out); (case side5 => exact tab_below HTb.out (bl_)); rintro e w17 ⟨v229, rfl, ho0, hb⟩; refine ⟨_, rfl, ?_⟩; have HO230 := Aside0.mk (Kd.R_lower ho0 (below_size (bl_))); replace BK222 := Aside0.mk (blk_below (bk_ BK222) hb); replace HB := Aside0.mk (below_step (bl_) hb); (try clear hb); (try clear hb2); (try clear hk); (try clear hi); (try clear ho0)))
   go_loopg [6] kj2 (fun kq v6 w' => ∃ (x6_2 : Int), v6 = .int .i64 x6_2 ∧ Aside0 (impl_PartsOf.l0 kq a1 t228 x6_2 = some r) ∧ Aside0 (kq ≤ kj2) ∧ Aside0 (Kd.R Kd.string 9 w' w.heap.size (fun _ => True) v229 t228) ∧ Aside0 (w'.heap[gb222]? = some (.cells #[(.slice A0_0 l0_0.length c0_0), (.slice A0_1 l0_1.length c0_1)] 26 (0, 0))) ∧ Aside0 (Below w.heap.size w w'))
   case atStart => exact ⟨(2), rf_, H', ⟨Nat.le_refl _⟩, ⟨kR_ HO230⟩, ⟨by (with_reducible repeat (first | refine blk_drewN ?_ _ | refine blk_drew ?_ | refine blk_alloc ?_ _)); exact BK222.out⟩, ⟨bl_⟩⟩
   case round =>
    clear H'
    (try clear c1);(try clear c2);(try clear p2);(try clear c6);(try clear c12);(try clear hcz10_0);(try clear hcz10_1);(try clear hcz16_0);(try clear hcz16_1);(try clear hcz8_0);(try clear hcz8_1);(try clear hfz10_0);(try clear hfz10_1);(try clear hfz16_0);(try clear hfz16_1);(try clear hfz8_0);(try clear hfz8_1);(try clear p2)
    obtain ⟨x6_2, rfl, HA, HK2, HO_5, BK222, HB⟩ := hrel
    cases gk with
    | zero => exact absurd HA.out (by simp [impl_PartsOf.l0])
    | succ k2 =>
     have H := HA.out
     clear HA
     simp only [impl_PartsOf.l0] at H
     replace H := iudd_ H; rcases H with ⟨c18b0, H⟩ | ⟨c18b0, H⟩
     · obtain ⟨y234, hy_⟩ : ∃ y_ : List ByteArray, y_ = (([] : List ByteArray)) := ⟨_, rfl⟩
       replace H : (some y234) = some r := ry_
       have Ny234 := Aside0.mk hy_; clear hy_
       obtain rfl := Option.some.inj H
       go_wp2_with (first | ((with_reducible refine gate_dst (N := 30) rfl ?_); refine rl_ Kd.string 9 30 ([] : List ByteArray) [] ?_; intro v235 w27 ho28 hb hg_ hnew_; clear hg_ hnew_; (first | rw [← Ny234.out] at ho28 | (simp only [Int.reduceToNat, Int.toNat_natCast] at ho28; rw [← Ny234.out] at ho28)); have HO236 := Aside0.mk (Kd.R_lower (Kd.R_new' ho28 (Kd.R_lt (kR_ HO_5))) (below_size (bl_))); replace HO_5 := Aside0.mk (Kd.R_elder' (kR_ HO_5) (Kd.R_base ho28) hb); replace BK222 := Aside0.mk (blk_below (bk_ BK222) hb); replace HB := Aside0.mk (below_step (bl_) hb); clear hb ho28))
       go_ret
       exact ⟨_, rfe_, by (with_reducible repeat (first | apply Kd.R_alloc | apply Kd.R_drewN | apply Kd.R_drew)); exact Kd.R_mono HO236.out (fun _ hk => trivial), bl_⟩
     replace H := Option.bind_eq_some_iff.mp H
     obtain ⟨t231, A190, H⟩ := H; try dsimp only at H
     have A19 := Aside0.mk A190
     clear A190
     replace H := iucc_ H; rcases H with ⟨c20, H⟩ | ⟨c20, H⟩
     · have c20b0 : ((t231.length : Int) == 0) = false := beq_eq_false_iff_ne.mpr c20
       have c20b1 : ((t231.length : Int) != 0) = true := bne_iff_ne.mpr c20
       have c20b2 : ¬ (t231 = []) := fun h_ => c20 (by rw [h_]; rfl)
       obtain rfl := Option.some.inj H
       obtain ⟨Ao24, co24, eo24⟩ := Kd.R_slice HO_5.out
       subst eo24
       go_wp2_with (first | ((with_reducible refine gate_callee (f := 24) rfl ?_); refine gl_ 26 Try.func24 #[.slice Ao24 t228.length co24, .string a1, .int .i64 x6_2] ?_; (with_reducible refine (impl_divided.calls k2 _ _ t228 a1 x6_2 t231 _ ?side1 ?side2 A19.out).mono ?_); (case side1 => exact cr_ HO_5); (case side2 => exact (Kd.R_reads' HO_5.out).2.1); rintro e w25 ⟨v232, rfl, ⟨ho0, hn0_⟩, hb⟩; refine ⟨_, rfl, ?_⟩; have HO233 := Aside0.mk (Kd.R_lower (Kd.R_new' ho0 (Kd.R_lt (kR_ HO_5))) (below_size (bl_))); replace HO_5 := Aside0.mk (Kd.R_elder' (kR_ HO_5) (Kd.R_base ho0) hb); replace BK222 := Aside0.mk (blk_below (bk_ BK222) hb); replace HB := Aside0.mk (below_step (bl_) hb); (try clear hb); (try clear hb2); (try clear hk); (try clear hi); (try clear ho0); obtain ⟨Ao26, co26, eo26⟩ := Kd.R_slice HO233.out; subst eo26; have hA_ := isN_ hn0_ HO233))
       go_ret
       exact ⟨_, rfe_, by (with_reducible repeat (first | apply Kd.R_alloc | apply Kd.R_drewN | apply Kd.R_drew)); exact Kd.R_mono HO233.out (fun _ hk => trivial), bl_⟩
     have c20b0 : ((t231.length : Int) == 0) = true := beq_iff_eq.mpr c20
     have c20b1 : ((t231.length : Int) != 0) = false := bne_eq_false_iff_eq.mpr c20
     clear c20
     have H' := Aside0.mk H; clear H
     obtain ⟨Ao21, co21, eo21⟩ := Kd.R_slice HO_5.out
     subst eo21
     go_wp2_with (first | ((with_reducible refine gate_callee (f := 24) rfl ?_); refine gl_ 26 Try.func24 #[.slice Ao21 t228.length co21, .string a1, .int .i64 x6_2] ?_; (with_reducible refine (impl_divided.calls k2 _ _ t228 a1 x6_2 t231 _ ?side1 ?side2 A19.out).mono ?_); (case side1 => exact cr_ HO_5); (case side2 => exact (Kd.R_reads' HO_5.out).2.1); rintro e w22 ⟨v232, rfl, ⟨ho0, hn0_⟩, hb⟩; refine ⟨_, rfl, ?_⟩; have HO233 := Aside0.mk (Kd.R_lower (Kd.R_new' ho0 (Kd.R_lt (kR_ HO_5))) (below_size (bl_))); replace HO_5 := Aside0.mk (Kd.R_elder' (kR_ HO_5) (Kd.R_base ho0) hb); replace BK222 := Aside0.mk (blk_below (bk_ BK222) hb); replace HB := Aside0.mk (below_step (bl_) hb); (try clear hb); (try clear hb2); (try clear hk); (try clear hi); (try clear ho0); obtain ⟨Ao23, co23, eo23⟩ := Kd.R_slice HO233.out; subst eo23; have hA_ := isN_ hn0_ HO233))
     go_roundg k2
     case measure => have := HJ2.out; have := HK2.out; omega
     case rel => exact ⟨(wrap64 (x6_2 + 1)), rf_, H', ⟨by have := HJ2.out; have := HK2.out; omega⟩, ⟨by (with_reducible repeat (first | apply Kd.R_alloc | apply Kd.R_drewN | apply Kd.R_drew)); exact Kd.R_mono HO_5.out (fun _ hk => trivial)⟩, ⟨by (with_reducible repeat (first | refine blk_drewN ?_ _ | refine blk_drew ?_ | refine blk_alloc ?_ _)); exact BK222.out⟩, ⟨bl_⟩⟩

end Go.Proofs.Ytbopiacjioedeaa.P
