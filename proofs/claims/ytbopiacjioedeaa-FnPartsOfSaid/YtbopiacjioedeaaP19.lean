-- Written by a program of this session (wip/gen/gen.py) out of Lean's print of the loaded program; Lean checks it.
import Derived.Test.YtbopiacjioedeaaP0
import Derived.Test.YtbopiacjioedeaaSq2
import Derived.Laws.Cover3
import Derived.Test.YtbopiacjioedeaaP15
import Derived.Test.YtbopiacjioedeaaP16
import Derived.Test.YtbopiacjioedeaaP17
import Derived.Test.YtbopiacjioedeaaP18
import Derived.Test.YtbopiacjioedeaaTab
namespace Go.Proofs.Ytbopiacjioedeaa.P
open Go.RowKit Go.Proofs.YtbopiacjioedeaaW.PrintWords Go.Proofs.YtbopiacjioedeaaW.PrintLast Go.Proofs.YtbopiacjioedeaaW.PrintMore
attribute [local go_sem] max2_int min2_int max_two min_two max_three min_three max_four min_four IntKind.wrap_u8 IntKind.wrap_u32 w64_256 w64_u32
set_option maxHeartbeats 8000000
set_option maxRecDepth 100000
set_option linter.unusedVariables false
set_option linter.unusedSimpArgs false

/-! ### impl_Book_words: function 23 -/
def impl_Book_words.l0 : Nat → List ByteArray → List (S73) → Int → Int → List (S68) → List (S73) → Option (List ByteArray)
 | 0, _, _, _, _, _, _ => none
 | k + 1, x3, x8, x9, x10, x462000, x462001 => if x10 < x9 then (if 0 ≤ x10 then (if x10 < (x8.length : Int) then ((impl_Forms.f k x462000 ((rd_T73 x8 x10).f0) ((rd_T73 x8 x10).f1)).bind fun t467 => (if x3.length + t467.length < 8796093022208 then (impl_Book_words.l0 k (x3 ++ t467) x8 x9 (wrap64 (x10 + 1)) x462000 x462001) else (none))) else (none)) else (none)) else ((impl_sorted.f x3).bind fun t473 => (some t473))
def impl_Book_words.f (k : Nat) (l0_0 : List (S68)) (l0_1 : List (S73)) : Option (List ByteArray) := impl_Book_words.l0 k (([] : List ByteArray)) l0_1 (l0_1.length : Int) 0 l0_0 l0_1
theorem impl_Book_words.mono_l : ∀ k, (∀ y0 y1 y2 y3 y4 y5, LeO (impl_Book_words.l0 k y0 y1 y2 y3 y4 y5) (impl_Book_words.l0 (k + 1) y0 y1 y2 y3 y4 y5))
 | 0 => fun _ _ _ _ _ _ r h => by simp [impl_Book_words.l0] at h
 | k + 1 => by
  have ih0 := impl_Book_words.mono_l k
  · intro y0 y1 y2 y3 y4 y5
    unfold impl_Book_words.l0
    have m0 := @impl_Forms.mono
    exact mn_
theorem impl_Book_words.mono : ∀ a0 a1 k, LeO (impl_Book_words.f k a0 a1) (impl_Book_words.f (k + 1) a0 a1) := by
 intro a0 a1 k
 have ih0 := impl_Book_words.mono_l k
 unfold impl_Book_words.f
 have m0 := @impl_Forms.mono
 exact mn_
theorem impl_Book_words.calls (k : Nat) (A0_0 : Option Addr) (c0_0 : Nat) (l0_0 : List (S68)) (A0_1 : Option Addr) (c0_1 : Nat) (l0_1 : List (S73)) (r : List ByteArray) (w : World) (hr0_0 : Kd.C k68 w A0_0 l0_0.length l0_0) (hc0_0 : l0_0.length ≤ c0_0) (hr0_1 : Kd.C k73 w A0_1 l0_1.length l0_1) (hc0_1 : l0_1.length ≤ c0_1) (hT : Tab w) (h : impl_Book_words.f k l0_0 l0_1 = some r) :
 Calls Try.prog 23 #[.agg #[.slice A0_0 l0_0.length c0_0, .slice A0_1 l0_1.length c0_1]] w fun e w' => ∃ v0_ : Value, e = .returned (v0_) ∧ Kd.R Kd.string 9 w' w.heap.size (fun _ => True) v0_ r ∧ Below w.heap.size w w' := by
 have hu26 := Try.underlying26
 have hu73 := Try.underlying73
 have HR0_0 := Aside0.mk hr0_0
 have HC0_0 := Aside0.mk hc0_0
 clear hr0_0 hc0_0
 have HR0_1 := Aside0.mk hr0_1
 have HC0_1 := Aside0.mk hc0_1
 clear hr0_1 hc0_1
 have HTb := Aside0.mk hT
 clear hT
 have HB := Aside0.mk (Below.refl w.heap.size w)
 unfold impl_Book_words.f at h; have H := h; clear h
 obtain ⟨y462, hy_⟩ : ∃ y_ : List ByteArray, y_ = (([] : List ByteArray)) := ⟨_, rfl⟩
 replace H : (impl_Book_words.l0 k y462 l0_1 (l0_1.length : Int) 0 l0_0 l0_1) = some r := ry_
 have Ny462 := Aside0.mk hy_; clear hy_
 have H' := Aside0.mk H; clear H
 go_enter Try.func23, Try.ntmps23
 go_wp2_with (first | ((with_reducible refine gate_dst (N := 1) rfl ?_); refine be_ 1 26 #[.slice A0_0 l0_0.length c0_0, .slice A0_1 l0_1.length c0_1] ?_; intro gb461 hg w2 hbox hb; have BK461 := Aside0.mk (hbox); have GW461 := Aside0.mk ((gs_ hg : w.heap.size ≤ gb461)); have GE461 := Aside0.mk ((gs_ hg : w.heap.size ≤ gb461)); replace HB := Aside0.mk (below_step (bl_) hb); clear hb hbox hg) | ((with_reducible refine gate_dst (N := 6) rfl ?_); refine rl_ Kd.string 9 6 ([] : List ByteArray) [] ?_; intro v463 w3 ho4 hb hg_ hnew_; clear hg_ hnew_; (first | rw [← Ny462.out] at ho4 | (simp only [Int.reduceToNat] at ho4; rw [← Ny462.out] at ho4)); have HO464 := Aside0.mk (Kd.R_lower ho4 (below_size (bl_))); replace BK461 := Aside0.mk (blk_below (bk_ BK461) hb); replace HB := Aside0.mk (below_step (bl_) hb); clear hb ho4; have hcz5_0 := bc0_ BK461; have hcz5_1 := bc1_ BK461; have hfz5_0 := blk_frozen BK461.out 0; have hfz5_1 := blk_frozen BK461.out 1))
 go_loopg [3, 10] k (fun kq v3 v10 w' => ∃ (x3_1 : List ByteArray) (x10_1 : Int), v10 = .int .i64 x10_1 ∧ Aside0 (impl_Book_words.l0 kq x3_1 l0_1 (l0_1.length : Int) x10_1 l0_0 l0_1 = some r) ∧ Aside0 (kq ≤ k) ∧ Aside0 (Kd.R Kd.string 9 w' w.heap.size (fun _ => True) v3 x3_1) ∧ Aside0 (w'.heap[gb461]? = some (.cells #[(.slice A0_0 l0_0.length c0_0), (.slice A0_1 l0_1.length c0_1)] 26 (0, 0))) ∧ Aside0 (Below w.heap.size w w'))
 case atStart => exact ⟨(y462), (0), rf_, H', ⟨Nat.le_refl _⟩, ⟨kR_ HO464⟩, ⟨by (with_reducible repeat (first | refine blk_drewN ?_ _ | refine blk_drew ?_ | refine blk_alloc ?_ _)); exact BK461.out⟩, ⟨bl_⟩⟩
 case round =>
  clear H'
  (try clear c2);(try clear p2);(try clear hcz5_0);(try clear hcz5_1);(try clear hfz5_0);(try clear hfz5_1)
  obtain ⟨x3_1, x10_1, rfl, HA, HK1, HO_3, BK461, HB⟩ := hrel
  cases gk with
  | zero => exact absurd HA.out (by simp [impl_Book_words.l0])
  | succ k1 =>
   have H := HA.out
   clear HA
   simp only [impl_Book_words.l0] at H
   replace H := iudd_ H; rcases H with ⟨c6b0, H⟩ | ⟨c6b0, H⟩
   · replace H := Option.bind_eq_some_iff.mp H
     obtain ⟨t473, A180, H⟩ := H; try dsimp only at H
     have A18 := Aside0.mk A180
     clear A180
     obtain rfl := Option.some.inj H
     obtain ⟨Ao19, co19, eo19⟩ := Kd.R_slice HO_3.out
     subst eo19
     go_wp2_with (first | ((with_reducible refine gate_callee (f := 48) rfl ?_); refine gl_ 22 Try.func48 #[.slice Ao19 x3_1.length co19] ?_; (with_reducible refine (impl_sorted.calls _ _ x3_1 t473 _ ?side1 ?side2 A18.out).mono ?_); (case side1 => exact cr_ HO_3); (case side2 => exact (Kd.R_reads' HO_3.out).2.1); rintro e w20 ⟨v474, rfl, ho0, hb⟩; refine ⟨_, rfl, ?_⟩; have HO475 := Aside0.mk (Kd.R_lower (Kd.R_new' ho0 (Kd.R_lt (kR_ HO_3))) (below_size (bl_))); replace HO_3 := Aside0.mk (Kd.R_elder' (kR_ HO_3) (Kd.R_base ho0) hb); replace BK461 := Aside0.mk (blk_below (bk_ BK461) hb); replace HB := Aside0.mk (below_step (bl_) hb); (try clear hb); (try clear hb2); (try clear hk); (try clear hi); (try clear ho0)))
     go_ret
     exact ⟨_, rfe_, by (with_reducible repeat (first | apply Kd.R_alloc | apply Kd.R_drewN | apply Kd.R_drew)); exact Kd.R_mono HO475.out (fun _ hk => trivial), bl_⟩
   replace H := ind_ H; obtain ⟨c7b0, H⟩ := H
   replace H := ind_ H; obtain ⟨c8b0, H⟩ := H
   replace H := Option.bind_eq_some_iff.mp H
   obtain ⟨t467, A90, H⟩ := H; try dsimp only at H
   have A9 := Aside0.mk A90
   clear A90
   replace H := inc_ H; obtain ⟨c10, H⟩ := H
   have LMc10 := Aside0.mk c10
   clear c10
   obtain ⟨y470, hy_⟩ : ∃ y_ : List ByteArray, y_ = (x3_1 ++ t467) := ⟨_, rfl⟩
   replace H : (impl_Book_words.l0 k1 y470 l0_1 (l0_1.length : Int) (wrap64 (x10_1 + 1)) l0_0 l0_1) = some r := ry_
   have Ny470 := Aside0.mk hy_; clear hy_
   have H' := Aside0.mk H; clear H
   have p465 : 0 ≤ (x10_1 : Int) := od_
   have q465 : x10_1 < (l0_1.length : Int) := od_
   obtain ⟨ad465, e465, hx465_0, hx465_1⟩ := at_T73 HR0_1.out x10_1 p465 q465
   cases e465
   replace hx465_0 := hc_ HB hx465_0
   replace hx465_1 := hc_ HB hx465_1
   replace p465 := eq_true p465; replace q465 := eq_true q465
   go_wp2_with (first | ((with_reducible refine gate_dst (N := 5) rfl ?_); refine be_ 5 73 #[.string (⟨#[]⟩ : ByteArray), .string (⟨#[]⟩ : ByteArray)] ?_; intro gb466 hg w11 hbox hb; replace HO_3 := Aside0.mk (Kd.R_below (kR_ HO_3) hb); have BK466 := Aside0.mk (hbox); have GW466 := Aside0.mk ((gs_ hg : w.heap.size ≤ gb466)); have GE466 := Aside0.mk ((gs_ hg : w.heap.size ≤ gb466)); replace HB := Aside0.mk (below_step (bl_) hb); have NB461_466 := Aside0.mk ((by rw [hg]; exact Nat.ne_of_lt (blk_lt (bk_ BK461)) : gb461 ≠ gb466)); have NB466_461 := Aside0.mk ((by rw [hg]; exact Nat.ne_of_gt (blk_lt (bk_ BK461)) : gb466 ≠ gb461)); replace BK461 := Aside0.mk (blk_below (bk_ BK461) hb); clear hb hbox hg; have hnb12 := NB466_461.out; have hnc12 := NB461_466.out; have hcz13_0 := bc0_ BK466; have hcz13_1 := bc1_ BK466; have hfz13_0 := blk_frozen BK466.out 0; have hfz13_1 := blk_frozen BK466.out 1; have hcz14_0 := bc0_ BK461; have hcz14_1 := bc1_ BK461; have hfz14_0 := blk_frozen BK461.out 0; have hfz14_1 := blk_frozen BK461.out 1) | ((with_reducible refine gate_callee (f := 47) rfl ?_); refine gl_ 18 Try.func47 #[.slice A0_0 l0_0.length c0_0, .agg #[.string ((rd_T73 l0_1 x10_1).f0), .string ((rd_T73 l0_1 x10_1).f1)]] ?_; (with_reducible refine (impl_Forms.calls k1 _ _ l0_0 ((rd_T73 l0_1 x10_1).f0) ((rd_T73 l0_1 x10_1).f1) t467 _ ?side1 ?side2 ?side3 A9.out).mono ?_); (case side1 => exact Kd.C_below HR0_0.out (bl_)); (case side2 => exact HC0_0.out); (case side3 => exact tab_below HTb.out (bl_)); rintro e w15 ⟨v468, rfl, ho0, hb⟩; refine ⟨_, rfl, ?_⟩; have HO469 := Aside0.mk (Kd.R_lower (Kd.R_new' ho0 (Kd.R_lt (by (with_reducible repeat (first | apply Kd.R_alloc | apply Kd.R_drewN | apply Kd.R_drew)); exact (Kd.R_mono (Kd.R_far (p := ⟨gb466, 1, none⟩) (Kd.R_far (p := ⟨gb466, 0, none⟩) (Kd.R_types HO_3.out BK466.out (by decide)) (fun _ hk => hk.2) (.string ((rd_T73 l0_1 x10_1).f0))) (fun _ hk => hk.2) (.string ((rd_T73 l0_1 x10_1).f1))) (fun _ h_ => h_.1))))) (below_size (bl_))); replace HO_3 := Aside0.mk (Kd.R_elder' (by (with_reducible repeat (first | apply Kd.R_alloc | apply Kd.R_drewN | apply Kd.R_drew)); exact (Kd.R_mono (Kd.R_far (p := ⟨gb466, 1, none⟩) (Kd.R_far (p := ⟨gb466, 0, none⟩) (Kd.R_types HO_3.out BK466.out (by decide)) (fun _ hk => hk.2) (.string ((rd_T73 l0_1 x10_1).f0))) (fun _ hk => hk.2) (.string ((rd_T73 l0_1 x10_1).f1))) (fun _ h_ => h_.1))) (Kd.R_base ho0) hb); replace BK461 := Aside0.mk (blk_below (g := gb461) (o := .cells #[.slice A0_0 l0_0.length c0_0, .slice (some ad465) l0_1.length c0_1] 26 (0, 0)) bq_ hb); replace BK466 := Aside0.mk (blk_below (g := gb466) (o := .cells #[.string ((rd_T73 l0_1 x10_1).f0), .string ((rd_T73 l0_1 x10_1).f1)] 73 (0, 0)) bq_ hb); replace HB := Aside0.mk (below_step (bl_) hb); (try clear hb); (try clear hb2); (try clear hk); (try clear hi); (try clear ho0); obtain ⟨Ao17, co17, eo17⟩ := Kd.R_slice HO469.out; subst eo17) | ((with_reducible refine gate_builtin (b := .append) (xs := #[.tmp 14, .tmp 18]) rfl ?_); at_builtin; refine Kd.R_append_rows Kd.string (w0 := w) w.heap.size rfl (.tmp 14) (.tmp 18) 29 9 (.string ⟨#[]⟩) 16 rfl Try.underlying29 info9 rfl (by decide) (by omega) u3 x3_1 t467 _ _ _ (fun k_ => some k_ ≠ (.slice Ao17 t467.length co17 : Value).ownBlock) (fun _ => False) rfl rfl ?aO ?aR (fun _ _ h => h) (fun _ h => h.elim) ?aF ?aB ?aS ?aL ?_; (case aR => exact cr_ HO469); (case aB => exact (bl_)); (case aF => exact (fun k_ hk => Kd.fresh' (Kd.R_lt (kR_ HO469)) k_ hk)); (case aO => exact (by (with_reducible repeat (first | apply Kd.R_alloc | apply Kd.R_drewN | apply Kd.R_drew)); exact Kd.R_mono HO_3.out (fun _ hk => hk.2))); (case aS => exact (below_size (bl_))); (case aL => have := LMc10.out; omega); intro v471 w16 ho hb hg hat; rw [← Ny470.out] at ho; replace BK461 := Aside0.mk (blk_grown (bk_ BK461) hg (Kd.R_ne HO_3.out BK461.out (by decide))); replace BK466 := Aside0.mk (blk_grown (bk_ BK466) hg (Kd.R_ne HO_3.out BK466.out (by decide))); replace HO469 := Aside0.mk (Kd.R_after (ok := (fun _ => True)) (kR_ HO469) hg hat); replace HB := Aside0.mk (hb); have HO472 := Aside0.mk (ho); clear HO_3; clear ho hb hg hat))
   go_roundg k1
   case measure => have := HK1.out; omega
   case rel => exact ⟨(y470), (wrap64 (x10_1 + 1)), rf_, H', ⟨by have := HK1.out; omega⟩, ⟨by (with_reducible repeat (first | apply Kd.R_alloc | apply Kd.R_drewN | apply Kd.R_drew)); exact Kd.R_mono HO472.out (fun _ hk => trivial)⟩, ⟨by (with_reducible repeat (first | refine blk_drewN ?_ _ | refine blk_drew ?_ | refine blk_alloc ?_ _)); exact BK461.out⟩, ⟨bl_⟩⟩

/-! ### slices_Index_string_string: function 55 -/
def slices_Index_string_string.l0 : Nat → List ByteArray → ByteArray → Int → Int → Option (Int)
 | 0, _, _, _, _ => none
 | k + 1, x0, x1, x7, x8 => if x8 < x7 then (if 0 ≤ x8 then (if x8 < (x0.length : Int) then (if x1.toList = (rdOf ByteArray.empty x0 x8).toList then (some x8) else (slices_Index_string_string.l0 k x0 x1 x7 (wrap64 (x8 + 1)))) else (none)) else (none)) else (some (-1))
def slices_Index_string_string.f (k : Nat) (l0 : List ByteArray) (a1 : ByteArray) : Option (Int) := slices_Index_string_string.l0 k l0 a1 (l0.length : Int) 0
theorem slices_Index_string_string.mono_l : ∀ k, (∀ y0 y1 y2 y3, LeO (slices_Index_string_string.l0 k y0 y1 y2 y3) (slices_Index_string_string.l0 (k + 1) y0 y1 y2 y3))
 | 0 => fun _ _ _ _ r h => by simp [slices_Index_string_string.l0] at h
 | k + 1 => by
  have ih0 := slices_Index_string_string.mono_l k
  · intro y0 y1 y2 y3
    unfold slices_Index_string_string.l0
    exact mn_
theorem slices_Index_string_string.mono : ∀ a0 a1 k, LeO (slices_Index_string_string.f k a0 a1) (slices_Index_string_string.f (k + 1) a0 a1) := by
 intro a0 a1 k
 have ih0 := slices_Index_string_string.mono_l k
 unfold slices_Index_string_string.f
 exact mn_
theorem slices_Index_string_string.calls (k : Nat) (A0 : Option Addr) (c0 : Nat) (l0 : List ByteArray) (a1 : ByteArray) (r : Int) (w : World) (hr0 : Kd.C Kd.string w A0 l0.length l0) (hc0 : l0.length ≤ c0) (h : slices_Index_string_string.f k l0 a1 = some r) :
 Calls Try.prog 55 #[.slice A0 l0.length c0, .string a1] w fun e w' => e = .returned (.int .i64 r) ∧ Drawn0 w w' := by
 have HR0 := Aside0.mk hr0
 have HC0 := Aside0.mk hc0
 clear hr0 hc0
 unfold slices_Index_string_string.f at h; have H := h; clear h
 have H' := Aside0.mk H; clear H
 go_enter Try.func55, Try.ntmps55
 go_wp2
 go_loopg [8] k (fun kq v8 w' => ∃ (x8_1 : Int), v8 = .int .i64 x8_1 ∧ Aside0 (slices_Index_string_string.l0 kq l0 a1 (l0.length : Int) x8_1 = some r) ∧ Aside0 (kq ≤ k) ∧ Drawn0 w w')
 case atStart => exact ⟨(0), rf_, H', ⟨Nat.le_refl _⟩, dr_⟩
 case round =>
  clear H'
  try clear p2
  obtain ⟨x8_1, rfl, HA, HK1, ⟨m1, rfl⟩⟩ := hrel
  cases gk with
  | zero => exact absurd HA.out (by simp [slices_Index_string_string.l0])
  | succ k1 =>
   have H := HA.out
   clear HA
   simp only [slices_Index_string_string.l0] at H
   replace H := iudd_ H; rcases H with ⟨c3b0, H⟩ | ⟨c3b0, H⟩
   · obtain rfl := Option.some.inj H
     go_wp2
     go_ret
     exact ⟨rf_, dr_⟩
   replace H := ind_ H; obtain ⟨c4b0, H⟩ := H
   replace H := ind_ H; obtain ⟨c5b0, H⟩ := H
   replace H := itcc_ H; rcases H with ⟨c6, H⟩ | ⟨c6, H⟩
   · have c6b0 : (a1.toList == (rdOf ByteArray.empty l0 x8_1).toList) = true := beq_iff_eq.mpr c6
     have c6b1 : (a1.toList != (rdOf ByteArray.empty l0 x8_1).toList) = false := bne_eq_false_iff_eq.mpr c6
     clear c6
     obtain rfl := Option.some.inj H
     have p476 : 0 ≤ (x8_1 : Int) := od_
     have q476 : x8_1 < (l0.length : Int) := od_
     obtain ⟨ad476, e476, hx476_0⟩ := Kd.at_string HR0.out x8_1 p476 q476
     cases e476
     replace p476 := eq_true p476; replace q476 := eq_true q476
     go_wp2
     go_ret
     exact ⟨rf_, dr_⟩
   have c6b0 : (a1.toList == (rdOf ByteArray.empty l0 x8_1).toList) = false := beq_eq_false_iff_ne.mpr c6
   have c6b1 : (a1.toList != (rdOf ByteArray.empty l0 x8_1).toList) = true := bne_iff_ne.mpr c6
   have H' := Aside0.mk H; clear H
   have p476 : 0 ≤ (x8_1 : Int) := od_
   have q476 : x8_1 < (l0.length : Int) := od_
   obtain ⟨ad476, e476, hx476_0⟩ := Kd.at_string HR0.out x8_1 p476 q476
   cases e476
   replace p476 := eq_true p476; replace q476 := eq_true q476
   go_wp2
   go_roundg k1
   case measure => have := HK1.out; omega
   case rel => exact ⟨(wrap64 (x8_1 + 1)), rf_, H', ⟨by have := HK1.out; omega⟩, dr_⟩

/-! ### slices_Contains_string_string: function 29 -/
def slices_Contains_string_string.f (k : Nat) (l0 : List ByteArray) (a1 : ByteArray) : Option (Bool) := (slices_Index_string_string.f k l0 a1).bind fun t477 => (some (decide (t477 ≥ 0)))
theorem slices_Contains_string_string.mono : ∀ a0 a1 k, LeO (slices_Contains_string_string.f k a0 a1) (slices_Contains_string_string.f (k + 1) a0 a1) := by
 intro a0 a1 k
 unfold slices_Contains_string_string.f
 have m0 := @slices_Index_string_string.mono
 exact mn_
theorem slices_Contains_string_string.calls (k : Nat) (A0 : Option Addr) (c0 : Nat) (l0 : List ByteArray) (a1 : ByteArray) (r : Bool) (w : World) (hr0 : Kd.C Kd.string w A0 l0.length l0) (hc0 : l0.length ≤ c0) (h : slices_Contains_string_string.f k l0 a1 = some r) :
 Calls Try.prog 29 #[.slice A0 l0.length c0, .string a1] w fun e w' => e = .returned (.bool r) ∧ Drawn0 w w' := by
 have HR0 := Aside0.mk hr0
 have HC0 := Aside0.mk hc0
 clear hr0 hc0
 unfold slices_Contains_string_string.f at h; have H := h; clear h
 replace H := Option.bind_eq_some_iff.mp H
 obtain ⟨t477, A30, H⟩ := H; try dsimp only at H
 have A3 := Aside0.mk A30
 clear A30
 obtain rfl := Option.some.inj H
 go_enter Try.func29, Try.ntmps29
 go_wp2_with (first | ((with_reducible refine gate_callee (f := 55) rfl ?_); refine gl_ 7 Try.func55 #[.slice A0 l0.length c0, .string a1] ?_; (with_reducible refine (slices_Index_string_string.calls k _ _ l0 a1 t477 _ ?side1 ?side2 A3.out).mono ?_); (case side1 => repeat (first | exact HR0.out | (with_reducible refine Kd.C_alloc ?_ _) | (with_reducible refine Kd.C_drewN ?_ _) | (with_reducible refine Kd.C_drew ?_))); (case side2 => exact HC0.out); rintro e w' ⟨rfl, ⟨nd, rfl⟩⟩; refine ⟨_, rfl, ?_⟩))
 go_ret
 exact ⟨rf_, dr_⟩

/-- Nil, just if there is nothing in it. -/
theorem isN_ {t : List ByteArray} {A : Option Addr} {c e base : Nat} {ok : Nat → Prop} {w : World} (hn : t = [] → (Value.slice A t.length c) = .slice none 0 0) (ho : Aside0 (Kd.R Kd.string e w base ok (.slice A t.length c) t)) : A.isNone = ((t.length : Int) == 0) := by
 cases t with
 | nil =>
  have h := hn rfl
  injection h with h1
  subst h1
  rfl
 | cons x l =>
  obtain ⟨inner, h1, h2⟩ := Kd.R_own ho.out
  rcases h2 with ⟨_, h3⟩ | ⟨g, cap, cur, h3, _⟩
  · cases h3
  · injection h3 with h4
    subst h4
    simp
    omega
/-! ### impl_divided: function 24 -/
mutual
def impl_divided.l0 : Nat → List ByteArray → ByteArray → Int → Int → Option (List ByteArray)
 | 0, _, _, _, _ => none
 | k + 1, x0, x1, x2, x7 => if x7 ≤ (wrap64 ((x1.size : Int) - 3)) then (if 0 ≤ x7 then (if x7 ≤ (x1.size : Int) then ((slices_Contains_string_string.f k x0 (x1.extract 0 (x7 : Int).toNat)).bind fun t482 => (if t482 = true then ((impl_divided.f k x0 (x1.extract (x7 : Int).toNat x1.size) (wrap64 (x2 - 1))).bind fun t483 => (if (t483.length : Int) = 0 then (impl_divided.l0 k x0 x1 x2 (wrap64 (x7 + 1))) else ((some (([x1.extract 0 (x7 : Int).toNat] : List ByteArray) : List ByteArray)).bind fun y486 => (if y486.length + t483.length < 8796093022208 then (some (y486 ++ t483)) else (none))))) else (impl_divided.l0 k x0 x1 x2 (wrap64 (x7 + 1))))) else (none)) else (none)) else (some ([] : List ByteArray))
def impl_divided.f : Nat → List ByteArray → ByteArray → Int → Option (List ByteArray)
 | 0, _, _, _ => none
 | k + 1, l0, a1, a2 => if a2 = 1 then (if (a1.size : Int) ≥ 3 then ((slices_Contains_string_string.f k l0 a1).bind fun t478 => (if t478 = true then (some (([a1] : List ByteArray))) else (some ([] : List ByteArray)))) else (some ([] : List ByteArray))) else (impl_divided.l0 k l0 a1 a2 3)
end
theorem impl_divided.mono_l : ∀ k, (∀ y0 y1 y2, LeO (impl_divided.f k y0 y1 y2) (impl_divided.f (k + 1) y0 y1 y2)) ∧ (∀ y0 y1 y2 y3, LeO (impl_divided.l0 k y0 y1 y2 y3) (impl_divided.l0 (k + 1) y0 y1 y2 y3))
 | 0 => ⟨fun _ _ _ r h => by simp [impl_divided.f] at h, fun _ _ _ _ r h => by simp [impl_divided.l0] at h⟩
 | k + 1 => by
  obtain ⟨ih0, ih1⟩ := impl_divided.mono_l k
  refine ⟨?_, ?_⟩
  · intro y0 y1 y2
    unfold impl_divided.f
    have m0 := @slices_Contains_string_string.mono
    exact mn_
  · intro y0 y1 y2 y3
    unfold impl_divided.l0
    have m0 := @slices_Contains_string_string.mono
    exact mn_
theorem impl_divided.mono : ∀ a0 a1 a2 k, LeO (impl_divided.f k a0 a1 a2) (impl_divided.f (k + 1) a0 a1 a2) := by
 intro a0 a1 a2 k
 obtain ⟨ih0, ih1⟩ := impl_divided.mono_l k
 exact ih0 a0 a1 a2
theorem impl_divided.calls (k : Nat) : ∀ (A0 : Option Addr) (c0 : Nat) (l0 : List ByteArray) (a1 : ByteArray) (a2 : Int) (r : List ByteArray) (w : World) (hr0 : Kd.C Kd.string w A0 l0.length l0) (hc0 : l0.length ≤ c0) (h : impl_divided.f k l0 a1 a2 = some r),
 Calls Try.prog 24 #[.slice A0 l0.length c0, .string a1, .int .i64 a2] w fun e w' => ∃ v0_ : Value, e = .returned (v0_) ∧ (Kd.R Kd.string 9 w' w.heap.size (fun _ => True) v0_ r ∧ (r = [] → v0_ = .slice none 0 0)) ∧ Below w.heap.size w w' := by
 induction k using Nat.strongRecOn with
 | _ k ih =>
 intro A0 c0 l0 a1 a2 r w hr0 hc0 h
 cases k with
 | zero => exact absurd h (by simp [impl_divided.f])
 | succ k =>
 simp only [impl_divided.f] at h
 have hu_ := Try.underlying29
 have HR0 := Aside0.mk hr0
 have HC0 := Aside0.mk hc0
 clear hr0 hc0
 have HB := Aside0.mk (Below.refl w.heap.size w)
 have H : (if a2 = 1 then (if (a1.size : Int) ≥ 3 then ((slices_Contains_string_string.f k l0 a1).bind fun t478 => (if t478 = true then (some (([a1] : List ByteArray))) else (some ([] : List ByteArray)))) else (some ([] : List ByteArray))) else (impl_divided.l0 k l0 a1 a2 3)) = some r := h
 clear h
 replace H := itcc_ H; rcases H with ⟨c4, H⟩ | ⟨c4, H⟩
 · have c4b0 : (a2 == 1) = true := beq_iff_eq.mpr c4
   have c4b1 : (a2 != 1) = false := bne_eq_false_iff_eq.mpr c4
   clear c4
   replace H := iucc_ H; rcases H with ⟨c5, H⟩ | ⟨c5, H⟩
   · have c5b0 : decide (3 ≤ (a1.size : Int)) = false := decide_eq_false c5
     have c5b1 : decide (3 ≤ a1.size) = false := decide_eq_false (by omega)
     clear c5
     obtain rfl := Option.some.inj H
     go_enter Try.func24, Try.ntmps24
     go_wp2
     go_ret
     exact ⟨_, rfe_, ⟨by first | exact Kd.R_nil _ _ _ _ _ | exact Kd.N_nil _ _ _ _ _ | exact Kd.V_nil _ _ _ _ _ | exact Kd.Q_nil _ _ _ _ _ | exact Kd.S_nil _ _ _ _ _, (by first | rfl | exact (fun _ => rfl) | (intro h_; exact absurd (congrArg List.length h_) (by first | simp [Ny486.out, Ny479.out] | simp [Ny489.out, Ny479.out] | simp [Ny489.out, Ny486.out] | simp [Ny479.out] | simp [Ny486.out] | simp [Ny489.out])))⟩, bl_⟩
   have c5b0 : decide (3 ≤ (a1.size : Int)) = true := decide_eq_true c5
   have c5b1 : decide (3 ≤ a1.size) = true := decide_eq_true (by omega)
   clear c5
   replace H := Option.bind_eq_some_iff.mp H
   obtain ⟨t478, A60, H⟩ := H; try dsimp only at H
   have A6 := Aside0.mk A60
   clear A60
   replace H := iub_ H; rcases H with ⟨rfl, H⟩ | ⟨rfl, H⟩
   · obtain rfl := Option.some.inj H
     go_enter Try.func24, Try.ntmps24
     go_wp2_with (first | (go_at_call 29; (with_reducible refine (slices_Contains_string_string.calls k _ _ l0 a1 false _ ?side1 ?side2 A6.out).mono ?_); (case side1 => repeat (first | exact HR0.out | (with_reducible refine Kd.C_alloc ?_ _) | (with_reducible refine Kd.C_drewN ?_ _) | (with_reducible refine Kd.C_drew ?_))); (case side2 => exact HC0.out); rintro e w' ⟨rfl, ⟨nd, rfl⟩⟩))
     go_ret
     exact ⟨_, rfe_, ⟨by first | exact Kd.R_nil _ _ _ _ _ | exact Kd.N_nil _ _ _ _ _ | exact Kd.V_nil _ _ _ _ _ | exact Kd.Q_nil _ _ _ _ _ | exact Kd.S_nil _ _ _ _ _, (by first | rfl | exact (fun _ => rfl) | (intro h_; exact absurd (congrArg List.length h_) (by first | simp [Ny486.out, Ny479.out] | simp [Ny489.out, Ny479.out] | simp [Ny489.out, Ny486.out] | simp [Ny479.out] | simp [Ny486.out] | simp [Ny489.out])))⟩, bl_⟩
   obtain ⟨y479, hy_⟩ : ∃ y_ : List ByteArray, y_ = (([a1] : List ByteArray)) := ⟨_, rfl⟩
   replace H : (some y479) = some r := ry_
   have Ny479 := Aside0.mk hy_; clear hy_
   obtain rfl := Option.some.inj H
   go_enter Try.func24, Try.ntmps24
   go_wp2_with (first | (go_at_call 29; (with_reducible refine (slices_Contains_string_string.calls k _ _ l0 a1 true _ ?side1 ?side2 A6.out).mono ?_); (case side1 => repeat (first | exact HR0.out | (with_reducible refine Kd.C_alloc ?_ _) | (with_reducible refine Kd.C_drewN ?_ _) | (with_reducible refine Kd.C_drew ?_))); (case side2 => exact HC0.out); rintro e w' ⟨rfl, ⟨nd, rfl⟩⟩) | ((with_reducible refine gate_dst (N := 20) rfl ?_); refine rl_ Kd.string 9 20 ([a1] : List ByteArray) [.string a1] ?_; intro v480 w8 ho9 hb hg_ hnew_; clear hg_ hnew_; (first | rw [← Ny479.out] at ho9 | (simp only [Int.reduceToNat] at ho9; rw [← Ny479.out] at ho9)); have HO481 := Aside0.mk (Kd.R_lower ho9 (below_size (bl_))); replace HB := Aside0.mk (below_step (bl_) hb); clear hb ho9))
   go_ret
   exact ⟨_, rfe_, ⟨kR_ HO481, (by first | rfl | exact (fun _ => rfl) | (intro h_; exact absurd (congrArg List.length h_) (by first | simp [Ny486.out, Ny479.out] | simp [Ny489.out, Ny479.out] | simp [Ny489.out, Ny486.out] | simp [Ny479.out] | simp [Ny486.out] | simp [Ny489.out])))⟩, bl_⟩
 have c4b0 : (a2 == 1) = false := beq_eq_false_iff_ne.mpr c4
 have c4b1 : (a2 != 1) = true := bne_iff_ne.mpr c4
 have H' := Aside0.mk H; clear H
 go_enter Try.func24, Try.ntmps24
 go_wp2
 go_loopg [7] k (fun kq v7 w' => ∃ (x7_1 : Int), v7 = .int .i64 x7_1 ∧ Aside0 (impl_divided.l0 kq l0 a1 a2 x7_1 = some r) ∧ Aside0 (kq ≤ k) ∧ Aside0 (Below w.heap.size w w'))
 case atStart => exact ⟨(3), rf_, H', ⟨Nat.le_refl _⟩, ⟨bl_⟩⟩
 case round =>
  clear H'
  (try clear c2);(try clear p2);(try clear c4);(try clear c4b0);(try clear c4b1);(try clear c5);(try clear c5b0);(try clear c5b1);(try clear c7)
  obtain ⟨x7_1, rfl, HA, HK1, HB⟩ := hrel
  cases gk with
  | zero => exact absurd HA.out (by simp [impl_divided.l0])
  | succ k1 =>
   have H := HA.out
   clear HA
   simp only [impl_divided.l0] at H
   replace H := iudd_ H; rcases H with ⟨c10b0, H⟩ | ⟨c10b0, H⟩
   · obtain rfl := Option.some.inj H
     go_wp2
     go_ret
     exact ⟨_, rfe_, ⟨by first | exact Kd.R_nil _ _ _ _ _ | exact Kd.N_nil _ _ _ _ _ | exact Kd.V_nil _ _ _ _ _ | exact Kd.Q_nil _ _ _ _ _ | exact Kd.S_nil _ _ _ _ _, (by first | rfl | exact (fun _ => rfl) | (intro h_; exact absurd (congrArg List.length h_) (by first | simp [Ny486.out, Ny479.out] | simp [Ny489.out, Ny479.out] | simp [Ny489.out, Ny486.out] | simp [Ny479.out] | simp [Ny486.out] | simp [Ny489.out])))⟩, bl_⟩
   replace H := inc_ H; obtain ⟨c11, H⟩ := H
   have c11b0 := eq_true c11
   have c11b1 : decide (0 ≤ x7_1) = true := decide_eq_true c11
   clear c11
   replace H := inc_ H; obtain ⟨c12, H⟩ := H
   have c12b0 := eq_true c12
   have c12b1 : decide (x7_1 ≤ (a1.size : Int)) = true := decide_eq_true c12
   clear c12
   replace H := Option.bind_eq_some_iff.mp H
   obtain ⟨t482, A130, H⟩ := H; try dsimp only at H
   have A13 := Aside0.mk A130
   clear A130
   replace H := iub_ H; rcases H with ⟨rfl, H⟩ | ⟨rfl, H⟩
   · have H' := Aside0.mk H
     clear H
     go_wp2_with (first | ((with_reducible refine gate_callee (f := 29) rfl ?_); refine gl_ 32 Try.func29 #[.slice A0 l0.length c0, .string (a1.extract 0 (x7_1 : Int).toNat)] ?_; (with_reducible refine (slices_Contains_string_string.calls k1 _ _ l0 (a1.extract 0 (x7_1 : Int).toNat) false _ ?side1 ?side2 A13.out).mono ?_); (case side1 => exact cb_ HR0); (case side2 => exact HC0.out); rintro e w' ⟨rfl, ⟨nd, rfl⟩⟩; refine ⟨_, rfl, ?_⟩))
     go_roundg k1
     case measure => have := HK1.out; omega
     case rel => exact ⟨(wrap64 (x7_1 + 1)), rf_, H', ⟨by have := HK1.out; omega⟩, ⟨bl_⟩⟩
   have c15b0 := eq_true (od_ : 0 ≤ x7_1)
   have c16b0 := eq_true (od_ : x7_1 ≤ (a1.size : Int))
   replace H := Option.bind_eq_some_iff.mp H
   obtain ⟨t483, A170, H⟩ := H; try dsimp only at H
   have A17 := Aside0.mk A170
   clear A170
   replace H := itcc_ H; rcases H with ⟨c18, H⟩ | ⟨c18, H⟩
   · have c18b0 : ((t483.length : Int) == 0) = true := beq_iff_eq.mpr c18
     have c18b1 : ((t483.length : Int) != 0) = false := bne_eq_false_iff_eq.mpr c18
     clear c18
     have H' := Aside0.mk H; clear H
     go_wp2_with (first | ((with_reducible refine gate_callee (f := 29) rfl ?_); refine gl_ 32 Try.func29 #[.slice A0 l0.length c0, .string (a1.extract 0 (x7_1 : Int).toNat)] ?_; (with_reducible refine (slices_Contains_string_string.calls k1 _ _ l0 (a1.extract 0 (x7_1 : Int).toNat) true _ ?side1 ?side2 A13.out).mono ?_); (case side1 => exact cb_ HR0); (case side2 => exact HC0.out); rintro e w' ⟨rfl, ⟨nd, rfl⟩⟩; refine ⟨_, rfl, ?_⟩) | ((with_reducible refine gate_callee (f := 24) rfl ?_); refine gl_ 40 Try.func24 #[.slice A0 l0.length c0, .string (a1.extract (x7_1 : Int).toNat a1.size), .int .i64 (wrap64 (a2 - 1))] ?_; (with_reducible refine (ih k1 (by have := HK1.out; omega) _ _ l0 (a1.extract (x7_1 : Int).toNat a1.size) (wrap64 (a2 - 1)) t483 _ ?side1 ?side2 A17.out).mono ?_); (case side1 => exact cb_ HR0); (case side2 => exact HC0.out); rintro e w19 ⟨v484, rfl, ⟨ho0, hn0_⟩, hb⟩; refine ⟨_, rfl, ?_⟩; have HO485 := Aside0.mk (Kd.R_lower ho0 (below_size (bl_))); replace HB := Aside0.mk (below_step (bl_) hb); (try clear hb); (try clear hb2); (try clear hk); (try clear hi); (try clear ho0); obtain ⟨Ao20, co20, eo20⟩ := Kd.R_slice HO485.out; subst eo20; have hA_ := isN_ hn0_ HO485))
     go_roundg k1
     case measure => have := HK1.out; omega
     case rel => exact ⟨(wrap64 (x7_1 + 1)), rf_, H', ⟨by have := HK1.out; omega⟩, ⟨bl_⟩⟩
   have c18b0 : ((t483.length : Int) == 0) = false := beq_eq_false_iff_ne.mpr c18
   have c18b1 : ((t483.length : Int) != 0) = true := bne_iff_ne.mpr c18
   have c18b2 : ¬ (t483 = []) := fun h_ => c18 (by rw [h_]; rfl)
   have c21b0 := eq_true (od_ : 0 ≤ x7_1)
   have c22b0 := eq_true (od_ : x7_1 ≤ (a1.size : Int))
   obtain ⟨y486, hy_⟩ : ∃ y_ : List ByteArray, y_ = (([a1.extract 0 (x7_1 : Int).toNat] : List ByteArray)) := ⟨_, rfl⟩
   replace H : (if y486.length + t483.length < 8796093022208 then (some (y486 ++ t483)) else (none)) = some r := ry_
   have Ny486 := Aside0.mk hy_; clear hy_
   replace H := inc_ H; obtain ⟨c23, H⟩ := H
   have LMc23 := Aside0.mk c23
   clear c23
   obtain ⟨y489, hy_⟩ : ∃ y_ : List ByteArray, y_ = (y486 ++ t483) := ⟨_, rfl⟩
   replace H : (some y489) = some r := ry_
   have Ny489 := Aside0.mk hy_; clear hy_
   obtain rfl := Option.some.inj H
   go_wp2_with (first | ((with_reducible refine gate_callee (f := 29) rfl ?_); refine gl_ 32 Try.func29 #[.slice A0 l0.length c0, .string (a1.extract 0 (x7_1 : Int).toNat)] ?_; (with_reducible refine (slices_Contains_string_string.calls k1 _ _ l0 (a1.extract 0 (x7_1 : Int).toNat) true _ ?side1 ?side2 A13.out).mono ?_); (case side1 => exact cb_ HR0); (case side2 => exact HC0.out); rintro e w' ⟨rfl, ⟨nd, rfl⟩⟩; refine ⟨_, rfl, ?_⟩) | ((with_reducible refine gate_callee (f := 24) rfl ?_); refine gl_ 40 Try.func24 #[.slice A0 l0.length c0, .string (a1.extract (x7_1 : Int).toNat a1.size), .int .i64 (wrap64 (a2 - 1))] ?_; (with_reducible refine (ih k1 (by have := HK1.out; omega) _ _ l0 (a1.extract (x7_1 : Int).toNat a1.size) (wrap64 (a2 - 1)) t483 _ ?side1 ?side2 A17.out).mono ?_); (case side1 => exact cb_ HR0); (case side2 => exact HC0.out); rintro e w24 ⟨v484, rfl, ⟨ho0, hn0_⟩, hb⟩; refine ⟨_, rfl, ?_⟩; have HO485 := Aside0.mk (Kd.R_lower ho0 (below_size (bl_))); replace HB := Aside0.mk (below_step (bl_) hb); (try clear hb); (try clear hb2); (try clear hk); (try clear hi); (try clear ho0); obtain ⟨Ao25, co25, eo25⟩ := Kd.R_slice HO485.out; subst eo25; have hA_ := isN_ hn0_ HO485) | ((with_reducible refine gate_dst (N := 46) rfl ?_); refine rl_ Kd.string 9 46 ([a1.extract 0 (x7_1 : Int).toNat] : List ByteArray) [.string (a1.extract 0 (x7_1 : Int).toNat)] ?_; intro v487 w26 ho27 hb hg_ hnew_; clear hg_ hnew_; (first | rw [← Ny486.out] at ho27 | (simp only [Int.reduceToNat] at ho27; rw [← Ny486.out] at ho27)); have HO488 := Aside0.mk (Kd.R_lower (Kd.R_new' ho27 (Kd.R_lt (kR_ HO485))) (below_size (bl_))); replace HO485 := Aside0.mk (Kd.R_elder' (kR_ HO485) (Kd.R_base ho27) hb); replace HB := Aside0.mk (below_step (bl_) hb); clear hb ho27) | ((with_reducible refine gate_builtin (b := .append) (xs := #[.tmp 46, .tmp 47]) rfl ?_); at_builtin; refine Kd.R_append_rows Kd.string (w0 := w) w.heap.size rfl (.tmp 46) (.tmp 47) 29 9 (.string ⟨#[]⟩) 16 rfl Try.underlying29 info9 rfl (by decide) (by omega) v487 y486 t483 _ _ _ (fun k_ => some k_ ≠ (.slice Ao25 t483.length co25 : Value).ownBlock) (fun _ => False) rfl rfl ?aO ?aR (fun _ _ h => h) (fun _ h => h.elim) ?aF ?aB ?aS ?aL ?_; (case aR => exact cr_ HO485); (case aB => exact (bl_)); (case aF => exact (fun k_ hk => Kd.fresh' (Kd.R_lt (kR_ HO485)) k_ hk)); (case aO => exact (by (with_reducible repeat (first | apply Kd.R_alloc | apply Kd.R_drewN | apply Kd.R_drew)); exact Kd.R_mono HO488.out (fun _ hk => hk.2))); (case aS => exact (below_size (bl_))); (case aL => have := LMc23.out; omega); intro v490 w28 ho hb hg hat; rw [← Ny489.out] at ho; replace HO485 := Aside0.mk (Kd.R_after (ok := (fun _ => True)) (kR_ HO485) hg hat); replace HB := Aside0.mk (hb); have HO491 := Aside0.mk (ho); clear HO488; clear ho hb hg hat))
   go_ret
   exact ⟨_, rfe_, ⟨by (with_reducible repeat (first | apply Kd.R_alloc | apply Kd.R_drewN | apply Kd.R_drew)); exact Kd.R_mono HO491.out (fun _ hk => trivial), (by first | rfl | exact (fun _ => rfl) | (intro h_; exact absurd (congrArg List.length h_) (by first | simp [Ny486.out, Ny479.out] | simp [Ny489.out, Ny479.out] | simp [Ny489.out, Ny486.out] | simp [Ny479.out] | simp [Ny486.out] | simp [Ny489.out])))⟩, bl_⟩

/-! ### impl_PartsOf: function 6 -/
mutual
def impl_PartsOf.j0 : Nat → ByteArray → Bool → List (S68) → List (S73) → Option (List ByteArray)
 | 0, _, _, _, _ => none
 | k + 1, x1, x15, x493000, x493001 => if x15 = true then (some (([] : List ByteArray))) else ((impl_Book_words.f k x493000 x493001).bind fun t498 => (impl_PartsOf.l0 k x1 t498 2))
def impl_PartsOf.l0 : Nat → ByteArray → List ByteArray → Int → Option (List ByteArray)
 | 0, _, _, _ => none
 | k + 1, x1, x5, x6 => if x6 ≤ 3 then ((impl_divided.f k x5 x1 x6).bind fun t501 => (if (t501.length : Int) = 0 then (impl_PartsOf.l0 k x1 x5 (wrap64 (x6 + 1))) else (some t501))) else (some (([] : List ByteArray)))
end
def impl_PartsOf.f (k : Nat) (l0_0 : List (S68)) (l0_1 : List (S73)) (a1 : ByteArray) : Option (List ByteArray) := (impl_BookOk.f k l0_0 l0_1).bind fun t493 => (if t493 = true then ((impl_WordOk.f k a1).bind fun t494 => (impl_PartsOf.j0 k a1 (!t494) l0_0 l0_1)) else (impl_PartsOf.j0 k a1 true l0_0 l0_1))
theorem impl_PartsOf.mono_l : ∀ k, (∀ y0 y1 y2 y3, LeO (impl_PartsOf.j0 k y0 y1 y2 y3) (impl_PartsOf.j0 (k + 1) y0 y1 y2 y3)) ∧ (∀ y0 y1 y2, LeO (impl_PartsOf.l0 k y0 y1 y2) (impl_PartsOf.l0 (k + 1) y0 y1 y2))
 | 0 => ⟨fun _ _ _ _ r h => by simp [impl_PartsOf.j0] at h, fun _ _ _ r h => by simp [impl_PartsOf.l0] at h⟩
 | k + 1 => by
  obtain ⟨ih0, ih1⟩ := impl_PartsOf.mono_l k
  refine ⟨?_, ?_⟩
  · intro y0 y1 y2 y3
    unfold impl_PartsOf.j0
    have m0 := @impl_BookOk.mono
    have m1 := @impl_Book_words.mono
    have m2 := @impl_WordOk.mono
    have m3 := @impl_divided.mono
    exact mn_
  · intro y0 y1 y2
    unfold impl_PartsOf.l0
    have m0 := @impl_BookOk.mono
    have m1 := @impl_Book_words.mono
    have m2 := @impl_WordOk.mono
    have m3 := @impl_divided.mono
    exact mn_
theorem impl_PartsOf.mono : ∀ a0 a1 a2 k, LeO (impl_PartsOf.f k a0 a1 a2) (impl_PartsOf.f (k + 1) a0 a1 a2) := by
 intro a0 a1 a2 k
 obtain ⟨ih0, ih1⟩ := impl_PartsOf.mono_l k
 unfold impl_PartsOf.f
 have m0 := @impl_BookOk.mono
 have m1 := @impl_Book_words.mono
 have m2 := @impl_WordOk.mono
 have m3 := @impl_divided.mono
 exact mn_
theorem impl_PartsOf.calls (k : Nat) (A0_0 : Option Addr) (c0_0 : Nat) (l0_0 : List (S68)) (A0_1 : Option Addr) (c0_1 : Nat) (l0_1 : List (S73)) (a1 : ByteArray) (r : List ByteArray) (w : World) (hr0_0 : Kd.C k68 w A0_0 l0_0.length l0_0) (hc0_0 : l0_0.length ≤ c0_0) (hr0_1 : Kd.C k73 w A0_1 l0_1.length l0_1) (hc0_1 : l0_1.length ≤ c0_1) (hT : Tab w) (h : impl_PartsOf.f k l0_0 l0_1 a1 = some r) :
 Calls Try.prog 6 #[.agg #[.slice A0_0 l0_0.length c0_0, .slice A0_1 l0_1.length c0_1], .string a1] w fun e w' => ∃ v0_ : Value, e = .returned (v0_) ∧ Kd.R Kd.string 9 w' w.heap.size (fun _ => True) v0_ r ∧ Below w.heap.size w w' := by
 have hu_ := Try.underlying29
 have hu26 := Try.underlying26
 have HR0_0 := Aside0.mk hr0_0
 have HC0_0 := Aside0.mk hc0_0
 clear hr0_0 hc0_0
 have HR0_1 := Aside0.mk hr0_1
 have HC0_1 := Aside0.mk hc0_1
 clear hr0_1 hc0_1
 have HTb := Aside0.mk hT
 clear hT
 have HB := Aside0.mk (Below.refl w.heap.size w)
 unfold impl_PartsOf.f at h; have H := h; clear h
 have HC3 := Aside0.mk H
 clear H
 go_enter Try.func6, Try.ntmps6
 go_upto_region 1 with (first | ((with_reducible refine gate_dst (N := 2) rfl ?_); refine be_ 2 26 #[.slice A0_0 l0_0.length c0_0, .slice A0_1 l0_1.length c0_1] ?_; intro gb492 hg w4 hbox hb; have BK492 := Aside0.mk (hbox); have GW492 := Aside0.mk ((gs_ hg : w.heap.size ≤ gb492)); have GE492 := Aside0.mk ((gs_ hg : w.heap.size ≤ gb492)); replace HB := Aside0.mk (below_step (bl_) hb); clear hb hbox hg))
 (try simp only [Act.put, List.setIfInBounds_toArray, List.set_cons_zero, List.set_cons_succ])
 go_cut [15] (fun v15 wc => ∃ (kq : Nat) (x15_2 : Bool), v15 = .bool x15_2 ∧ Aside0 (impl_PartsOf.j0 kq a1 x15_2 l0_0 l0_1 = some r) ∧ Aside0 (kq ≤ k) ∧ Aside0 (wc.heap[gb492]? = some (.cells #[(.slice A0_0 l0_0.length c0_0), (.slice A0_1 l0_1.length c0_1)] 26 (0, 0))) ∧ Aside0 (Below w.heap.size w wc))
 case first =>
  have H := HC3.out
  clear HC3
  replace H := Option.bind_eq_some_iff.mp H
  obtain ⟨t493, A50, H⟩ := H; try dsimp only at H
  have A5 := Aside0.mk A50
  clear A50
  replace H := iub_ H; rcases H with ⟨rfl, H⟩ | ⟨rfl, H⟩
  · have H' := Aside0.mk H
    clear H
    have hcz10_0 := bc0_ BK492
    have hcz10_1 := bc1_ BK492
    have hfz10_0 := blk_frozen BK492.out 0
    have hfz10_1 := blk_frozen BK492.out 1
    go_wp2_with (first | ((with_reducible refine gate_callee (f := 21) rfl ?_); refine gl_ 9 Try.func21 #[.agg #[.slice A0_0 l0_0.length c0_0, .slice A0_1 l0_1.length c0_1]] ?_; (with_reducible refine (impl_BookOk.calls k _ _ l0_0 _ _ l0_1 false _ ?side1 ?side2 ?side3 ?side4 A5.out).mono ?_); (case side1 => exact cb_ HR0_0); (case side2 => exact HC0_0.out); (case side3 => exact cb_ HR0_1); (case side4 => exact HC0_1.out); rintro e w11 ⟨rfl, hb⟩; refine ⟨_, rfl, ?_⟩; replace BK492 := Aside0.mk (blk_below (bk_ BK492) hb); replace HB := Aside0.mk (below_step (bl_) hb); (try clear hb); (try clear hb2); (try clear hk); (try clear hi)))
    go_meet
    case rel => exact ⟨_, (true), rf_, H', ⟨by first | omega | exact Nat.le_refl _⟩, ⟨by (with_reducible repeat (first | refine blk_drewN ?_ _ | refine blk_drew ?_ | refine blk_alloc ?_ _)); exact BK492.out⟩, ⟨bl_⟩⟩
  replace H := Option.bind_eq_some_iff.mp H
  obtain ⟨t494, A70, H⟩ := H; try dsimp only at H
  have A7 := Aside0.mk A70
  clear A70
  have H' := Aside0.mk H; clear H
  have hcz8_0 := bc0_ BK492
  have hcz8_1 := bc1_ BK492
  have hfz8_0 := blk_frozen BK492.out 0
  have hfz8_1 := blk_frozen BK492.out 1
  go_wp2_with (first | ((with_reducible refine gate_callee (f := 21) rfl ?_); refine gl_ 9 Try.func21 #[.agg #[.slice A0_0 l0_0.length c0_0, .slice A0_1 l0_1.length c0_1]] ?_; (with_reducible refine (impl_BookOk.calls k _ _ l0_0 _ _ l0_1 true _ ?side1 ?side2 ?side3 ?side4 A5.out).mono ?_); (case side1 => exact cb_ HR0_0); (case side2 => exact HC0_0.out); (case side3 => exact cb_ HR0_1); (case side4 => exact HC0_1.out); rintro e w9 ⟨rfl, hb⟩; refine ⟨_, rfl, ?_⟩; replace BK492 := Aside0.mk (blk_below (bk_ BK492) hb); replace HB := Aside0.mk (below_step (bl_) hb); (try clear hb); (try clear hb2); (try clear hk); (try clear hi)) | (go_at_call 22; (with_reducible refine (impl_WordOk.calls k a1 t494 _ A7.out).mono ?_); rintro e w' ⟨rfl, ⟨nd, rfl⟩⟩))
  go_meet
  case rel => exact ⟨_, (!t494), rf_, H', ⟨by first | omega | exact Nat.le_refl _⟩, ⟨by (with_reducible repeat (first | refine blk_drewN ?_ _ | refine blk_drew ?_ | refine blk_alloc ?_ _)); exact BK492.out⟩, ⟨bl_⟩⟩
 case rest =>
  clear HC3
  (try clear c2);(try clear p2);(try clear c6);(try clear hcz10_0);(try clear hcz10_1);(try clear hcz8_0);(try clear hcz8_1);(try clear hfz10_0);(try clear hfz10_1);(try clear hfz8_0);(try clear hfz8_1)
  obtain ⟨kq, x15_2, rfl, HA, HJ2, BK492, HB⟩ := hcut
  cases kq with
  | zero => exact absurd HA.out (by simp [impl_PartsOf.j0])
  | succ kj2 =>
   have H := HA.out
   clear HA
   simp only [impl_PartsOf.j0] at H
   replace H := itb_ H; rcases H with ⟨rfl, H⟩ | ⟨rfl, H⟩
   · obtain ⟨y495, hy_⟩ : ∃ y_ : List ByteArray, y_ = (([] : List ByteArray)) := ⟨_, rfl⟩
     replace H : (some y495) = some r := ry_
     have Ny495 := Aside0.mk hy_; clear hy_
     obtain rfl := Option.some.inj H
     go_wp2_with (first | ((with_reducible refine gate_dst (N := 16) rfl ?_); refine rl_ Kd.string 9 16 ([] : List ByteArray) [] ?_; intro v496 w13 ho14 hb hg_ hnew_; clear hg_ hnew_; (first | rw [← Ny495.out] at ho14 | (simp only [Int.reduceToNat] at ho14; rw [← Ny495.out] at ho14)); have HO497 := Aside0.mk (Kd.R_lower ho14 (below_size (bl_))); replace BK492 := Aside0.mk (blk_below (bk_ BK492) hb); replace HB := Aside0.mk (below_step (bl_) hb); clear hb ho14))
     go_ret
     exact ⟨_, rfe_, kR_ HO497, bl_⟩
   replace H := Option.bind_eq_some_iff.mp H
   obtain ⟨t498, A150, H⟩ := H; try dsimp only at H
   have A15 := Aside0.mk A150
   clear A150
   have H' := Aside0.mk H; clear H
   have hcz16_0 := bc0_ BK492
   have hcz16_1 := bc1_ BK492
   have hfz16_0 := blk_frozen BK492.out 0
   have hfz16_1 := blk_frozen BK492.out 1
   go_wp2_with (first | ((with_reducible refine gate_callee (f := 23) rfl ?_); refine gl_ 18 Try.func23 #[.agg #[.slice A0_0 l0_0.length c0_0, .slice A0_1 l0_1.length c0_1]] ?_; (with_reducible refine (impl_Book_words.calls kj2 _ _ l0_0 _ _ l0_1 t498 _ ?side1 ?side2 ?side3 ?side4 ?side5 A15.out).mono ?_); (case side1 => exact cb_ HR0_0); (case side2 => exact HC0_0.out); (case side3 => exact cb_ HR0_1); (case side4 => exact HC0_1.out); (case side5 => exact tab_below HTb.out (bl_)); rintro e w17 ⟨v499, rfl, ho0, hb⟩; refine ⟨_, rfl, ?_⟩; have HO500 := Aside0.mk (Kd.R_lower ho0 (below_size (bl_))); replace BK492 := Aside0.mk (blk_below (bk_ BK492) hb); replace HB := Aside0.mk (below_step (bl_) hb); (try clear hb); (try clear hb2); (try clear hk); (try clear hi); (try clear ho0)))
   go_loopg [6] kj2 (fun kq v6 w' => ∃ (x6_2 : Int), v6 = .int .i64 x6_2 ∧ Aside0 (impl_PartsOf.l0 kq a1 t498 x6_2 = some r) ∧ Aside0 (kq ≤ kj2) ∧ Aside0 (Kd.R Kd.string 9 w' w.heap.size (fun _ => True) v499 t498) ∧ Aside0 (w'.heap[gb492]? = some (.cells #[(.slice A0_0 l0_0.length c0_0), (.slice A0_1 l0_1.length c0_1)] 26 (0, 0))) ∧ Aside0 (Below w.heap.size w w'))
   case atStart => exact ⟨(2), rf_, H', ⟨Nat.le_refl _⟩, ⟨kR_ HO500⟩, ⟨by (with_reducible repeat (first | refine blk_drewN ?_ _ | refine blk_drew ?_ | refine blk_alloc ?_ _)); exact BK492.out⟩, ⟨bl_⟩⟩
   case round =>
    clear H'
    (try clear c1);(try clear c2);(try clear p2);(try clear c6);(try clear c12);(try clear hcz10_0);(try clear hcz10_1);(try clear hcz16_0);(try clear hcz16_1);(try clear hcz8_0);(try clear hcz8_1);(try clear hfz10_0);(try clear hfz10_1);(try clear hfz16_0);(try clear hfz16_1);(try clear hfz8_0);(try clear hfz8_1);(try clear p2)
    obtain ⟨x6_2, rfl, HA, HK2, HO_5, BK492, HB⟩ := hrel
    cases gk with
    | zero => exact absurd HA.out (by simp [impl_PartsOf.l0])
    | succ k2 =>
     have H := HA.out
     clear HA
     simp only [impl_PartsOf.l0] at H
     replace H := iudd_ H; rcases H with ⟨c18b0, H⟩ | ⟨c18b0, H⟩
     · obtain ⟨y504, hy_⟩ : ∃ y_ : List ByteArray, y_ = (([] : List ByteArray)) := ⟨_, rfl⟩
       replace H : (some y504) = some r := ry_
       have Ny504 := Aside0.mk hy_; clear hy_
       obtain rfl := Option.some.inj H
       go_wp2_with (first | ((with_reducible refine gate_dst (N := 30) rfl ?_); refine rl_ Kd.string 9 30 ([] : List ByteArray) [] ?_; intro v505 w27 ho28 hb hg_ hnew_; clear hg_ hnew_; (first | rw [← Ny504.out] at ho28 | (simp only [Int.reduceToNat] at ho28; rw [← Ny504.out] at ho28)); have HO506 := Aside0.mk (Kd.R_lower (Kd.R_new' ho28 (Kd.R_lt (kR_ HO_5))) (below_size (bl_))); replace HO_5 := Aside0.mk (Kd.R_elder' (kR_ HO_5) (Kd.R_base ho28) hb); replace BK492 := Aside0.mk (blk_below (bk_ BK492) hb); replace HB := Aside0.mk (below_step (bl_) hb); clear hb ho28))
       go_ret
       exact ⟨_, rfe_, by (with_reducible repeat (first | apply Kd.R_alloc | apply Kd.R_drewN | apply Kd.R_drew)); exact Kd.R_mono HO506.out (fun _ hk => trivial), bl_⟩
     replace H := Option.bind_eq_some_iff.mp H
     obtain ⟨t501, A190, H⟩ := H; try dsimp only at H
     have A19 := Aside0.mk A190
     clear A190
     replace H := iucc_ H; rcases H with ⟨c20, H⟩ | ⟨c20, H⟩
     · have c20b0 : ((t501.length : Int) == 0) = false := beq_eq_false_iff_ne.mpr c20
       have c20b1 : ((t501.length : Int) != 0) = true := bne_iff_ne.mpr c20
       have c20b2 : ¬ (t501 = []) := fun h_ => c20 (by rw [h_]; rfl)
       obtain rfl := Option.some.inj H
       obtain ⟨Ao24, co24, eo24⟩ := Kd.R_slice HO_5.out
       subst eo24
       go_wp2_with (first | ((with_reducible refine gate_callee (f := 24) rfl ?_); refine gl_ 26 Try.func24 #[.slice Ao24 t498.length co24, .string a1, .int .i64 x6_2] ?_; (with_reducible refine (impl_divided.calls k2 _ _ t498 a1 x6_2 t501 _ ?side1 ?side2 A19.out).mono ?_); (case side1 => exact cr_ HO_5); (case side2 => exact (Kd.R_reads' HO_5.out).2.1); rintro e w25 ⟨v502, rfl, ⟨ho0, hn0_⟩, hb⟩; refine ⟨_, rfl, ?_⟩; have HO503 := Aside0.mk (Kd.R_lower (Kd.R_new' ho0 (Kd.R_lt (kR_ HO_5))) (below_size (bl_))); replace HO_5 := Aside0.mk (Kd.R_elder' (kR_ HO_5) (Kd.R_base ho0) hb); replace BK492 := Aside0.mk (blk_below (bk_ BK492) hb); replace HB := Aside0.mk (below_step (bl_) hb); (try clear hb); (try clear hb2); (try clear hk); (try clear hi); (try clear ho0); obtain ⟨Ao26, co26, eo26⟩ := Kd.R_slice HO503.out; subst eo26; have hA_ := isN_ hn0_ HO503))
       go_ret
       exact ⟨_, rfe_, by (with_reducible repeat (first | apply Kd.R_alloc | apply Kd.R_drewN | apply Kd.R_drew)); exact Kd.R_mono HO503.out (fun _ hk => trivial), bl_⟩
     have c20b0 : ((t501.length : Int) == 0) = true := beq_iff_eq.mpr c20
     have c20b1 : ((t501.length : Int) != 0) = false := bne_eq_false_iff_eq.mpr c20
     clear c20
     have H' := Aside0.mk H; clear H
     obtain ⟨Ao21, co21, eo21⟩ := Kd.R_slice HO_5.out
     subst eo21
     go_wp2_with (first | ((with_reducible refine gate_callee (f := 24) rfl ?_); refine gl_ 26 Try.func24 #[.slice Ao21 t498.length co21, .string a1, .int .i64 x6_2] ?_; (with_reducible refine (impl_divided.calls k2 _ _ t498 a1 x6_2 t501 _ ?side1 ?side2 A19.out).mono ?_); (case side1 => exact cr_ HO_5); (case side2 => exact (Kd.R_reads' HO_5.out).2.1); rintro e w22 ⟨v502, rfl, ⟨ho0, hn0_⟩, hb⟩; refine ⟨_, rfl, ?_⟩; have HO503 := Aside0.mk (Kd.R_lower (Kd.R_new' ho0 (Kd.R_lt (kR_ HO_5))) (below_size (bl_))); replace HO_5 := Aside0.mk (Kd.R_elder' (kR_ HO_5) (Kd.R_base ho0) hb); replace BK492 := Aside0.mk (blk_below (bk_ BK492) hb); replace HB := Aside0.mk (below_step (bl_) hb); (try clear hb); (try clear hb2); (try clear hk); (try clear hi); (try clear ho0); obtain ⟨Ao23, co23, eo23⟩ := Kd.R_slice HO503.out; subst eo23; have hA_ := isN_ hn0_ HO503))
     go_roundg k2
     case measure => have := HJ2.out; have := HK2.out; omega
     case rel => exact ⟨(wrap64 (x6_2 + 1)), rf_, H', ⟨by have := HJ2.out; have := HK2.out; omega⟩, ⟨by (with_reducible repeat (first | apply Kd.R_alloc | apply Kd.R_drewN | apply Kd.R_drew)); exact Kd.R_mono HO_5.out (fun _ hk => trivial)⟩, ⟨by (with_reducible repeat (first | refine blk_drewN ?_ _ | refine blk_drew ?_ | refine blk_alloc ?_ _)); exact BK492.out⟩, ⟨bl_⟩⟩

end Go.Proofs.Ytbopiacjioedeaa.P
