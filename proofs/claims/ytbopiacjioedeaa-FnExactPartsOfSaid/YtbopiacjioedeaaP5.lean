-- Written by a program of this session (wip/gen/gen.py) out of Lean's print of the loaded program; Lean checks it.
import Derived.Test.YtbopiacjioedeaaP0
import Derived.Test.YtbopiacjioedeaaSq2
import Derived.Test.YtbopiacjioedeaaExtSort
import Derived.Test.YtbopiacjioedeaaP2
import Derived.Test.YtbopiacjioedeaaP3
namespace Go.Proofs.Ytbopiacjioedeaa.P
open Go.RowKit Go.Proofs.YtbopiacjioedeaaW.PrintWords Go.Proofs.YtbopiacjioedeaaW.PrintLast Go.Proofs.YtbopiacjioedeaaW.PrintMore
attribute [local go_sem] max2_int min2_int max_two min_two max_three min_three max_four min_four IntKind.wrap_u8 IntKind.wrap_u32 w64_256 w64_u32
set_option maxHeartbeats 8000000
set_option maxRecDepth 100000
set_option linter.unusedVariables false
set_option linter.unusedSimpArgs false

/-! ### impl_sorted: function 48 -/
def impl_sorted.f (l0 : List ByteArray) : Option (List ByteArray) := (some (([] : List ByteArray) : List ByteArray)).bind fun y137 => (if y137.length + l0.length < 8796093022208 then ((slices_Sort_string_string.f (y137 ++ l0)).bind fun t143 => ((some (([] : List ByteArray) : List ByteArray)).bind fun y144 => ((slices_Compact_string_string.f t143).bind fun t147 => (if y144.length + t147.length < 8796093022208 then (some (y144 ++ t147)) else (none))))) else (none))
theorem impl_sorted.calls (A0 : Option Addr) (c0 : Nat) (l0 : List ByteArray) (r : List ByteArray) (w : World) (hr0 : Kd.C Kd.string w A0 l0.length l0) (hc0 : l0.length ≤ c0) (h : impl_sorted.f l0 = some r) :
 Calls Try.prog 48 #[.slice A0 l0.length c0] w fun e w' => ∃ v0_ : Value, e = .returned (v0_) ∧ Kd.R Kd.string 9 w' w.heap.size (fun _ => True) v0_ r ∧ Below w.heap.size w w' := by
 have HR0 := Aside0.mk hr0
 have HC0 := Aside0.mk hc0
 clear hr0 hc0
 have HB := Aside0.mk (Below.refl w.heap.size w)
 unfold impl_sorted.f at h; have H := h; clear h
 obtain ⟨y137, hy_⟩ : ∃ y_ : List ByteArray, y_ = (([] : List ByteArray)) := ⟨_, rfl⟩
 replace H : (if y137.length + l0.length < 8796093022208 then ((slices_Sort_string_string.f (y137 ++ l0)).bind fun t143 => ((some (([] : List ByteArray) : List ByteArray)).bind fun y144 => ((slices_Compact_string_string.f t143).bind fun t147 => (if y144.length + t147.length < 8796093022208 then (some (y144 ++ t147)) else (none))))) else (none)) = some r := ry_
 have Ny137 := Aside0.mk hy_; clear hy_
 replace H := inc_ H; obtain ⟨c2, H⟩ := H
 have LMc2 := Aside0.mk c2
 clear c2
 obtain ⟨y140, hy_⟩ : ∃ y_ : List ByteArray, y_ = (y137 ++ l0) := ⟨_, rfl⟩
 replace H : ((slices_Sort_string_string.f y140).bind fun t143 => ((some (([] : List ByteArray) : List ByteArray)).bind fun y144 => ((slices_Compact_string_string.f t143).bind fun t147 => (if y144.length + t147.length < 8796093022208 then (some (y144 ++ t147)) else (none))))) = some r := ry_
 have Ny140 := Aside0.mk hy_; clear hy_
 replace H := Option.bind_eq_some_iff.mp H
 obtain ⟨t143, A30, H⟩ := H; try dsimp only at H
 have A3 := Aside0.mk A30
 clear A30
 obtain ⟨y144, hy_⟩ : ∃ y_ : List ByteArray, y_ = (([] : List ByteArray)) := ⟨_, rfl⟩
 replace H : ((slices_Compact_string_string.f t143).bind fun t147 => (if y144.length + t147.length < 8796093022208 then (some (y144 ++ t147)) else (none))) = some r := ry_
 have Ny144 := Aside0.mk hy_; clear hy_
 replace H := Option.bind_eq_some_iff.mp H
 obtain ⟨t147, A40, H⟩ := H; try dsimp only at H
 have A4 := Aside0.mk A40
 clear A40
 replace H := inc_ H; obtain ⟨c5, H⟩ := H
 have LMc5 := Aside0.mk c5
 clear c5
 obtain ⟨y150, hy_⟩ : ∃ y_ : List ByteArray, y_ = (y144 ++ t147) := ⟨_, rfl⟩
 replace H : (some y150) = some r := ry_
 have Ny150 := Aside0.mk hy_; clear hy_
 obtain rfl := Option.some.inj H
 go_enter Try.func48, Try.ntmps48
 go_wp2_with (first | ((with_reducible refine gate_dst (N := 4) rfl ?_); refine rl_ Kd.string 9 4 ([] : List ByteArray) [] ?_; intro v138 w6 ho7 hb hg_ hnew_; clear hg_ hnew_; (first | rw [← Ny137.out] at ho7 | (simp only [Int.reduceToNat, Int.toNat_natCast] at ho7; rw [← Ny137.out] at ho7)); have HO139 := Aside0.mk (Kd.R_lower ho7 (below_size (bl_))); replace HB := Aside0.mk (below_step (bl_) hb); clear hb ho7) | ((with_reducible refine gate_builtin (b := .append) (xs := #[.tmp 4, .tmp 5]) rfl ?_); at_builtin; refine Kd.R_append_rows Kd.string (w0 := w) w.heap.size rfl (.tmp 4) (.tmp 5) 29 9 (.string ⟨#[]⟩) 16 rfl Try.underlying29 info9 rfl (by decide) (by omega) v138 y137 l0 _ _ _ (fun _ => True) (fun _ => False) rfl rfl ?aO ?aR (fun _ _ h => h) (fun _ h => h.elim) ?aF ?aB ?aS ?aL ?_; (case aR => exact cb_ HR0); (case aB => exact (bl_)); (case aF => exact (fun _ _ => trivial)); (case aO => exact (kR_ HO139)); (case aS => exact (below_size (bl_))); (case aL => have := LMc2.out; omega); intro v141 w8 ho hb hg hat; rw [← Ny140.out] at ho; replace HB := Aside0.mk (hb); have HO142 := Aside0.mk (ho); clear HO139; clear ho hb hg hat; obtain ⟨Ao9, co9, eo9⟩ := Kd.R_slice HO142.out; subst eo9) | ((with_reducible refine gate_callee (f := 71) rfl ?_); refine gl_ 8 Try.func71 #[.slice Ao9 y140.length co9] ?_; (with_reducible refine (slices_Sort_string_string.calls (fun k_ => some k_ = (.slice Ao9 y140.length co9 : Value).ownBlock) (.slice Ao9 y140.length co9) y140 t143 w _ ?side1 ?side2 A3.out).mono ?_); (case side1 => exact bs_); (case side2 => exact Kd.R_tight rfl HO142.out); rintro e w10 ⟨rfl, hy0, hb, hkp⟩; refine ⟨_, rfl, ?_⟩; replace HO142 := Aside0.mk (Kd.R_reok rfl hy0 (fun k_ e_ => HO142.out.1 k_ e_)); replace HB := Aside0.mk (hb); (try clear hb); (try clear hkp); (try clear hy0)) | ((with_reducible refine gate_dst (N := 9) rfl ?_); refine rl_ Kd.string 9 9 ([] : List ByteArray) [] ?_; intro v145 w11 ho12 hb hg_ hnew_; clear hg_ hnew_; (first | rw [← Ny144.out] at ho12 | (simp only [Int.reduceToNat, Int.toNat_natCast] at ho12; rw [← Ny144.out] at ho12)); have HO146 := Aside0.mk (Kd.R_lower (Kd.R_new' ho12 (Kd.R_lt (kR_ HO142))) (below_size (bl_))); replace HO142 := Aside0.mk (Kd.R_elder' (kR_ HO142) (Kd.R_base ho12) hb); replace HB := Aside0.mk (below_step (bl_) hb); clear hb ho12) | ((with_reducible refine gate_callee (f := 72) rfl ?_); refine gl_ 11 Try.func72 #[.slice Ao9 y140.length co9] ?_; (with_reducible refine (slices_Compact_string_string.calls (fun k_ => some k_ = (.slice Ao9 y140.length co9 : Value).ownBlock) (.slice Ao9 y140.length co9) t143 t147 w _ ?side1 ?side2 A4.out).mono ?_); (case side1 => exact bs_); (case side2 => exact Kd.R_tight rfl HO142.out); rintro e w13 ⟨v148, rfl, ho0, hb, hkp⟩; refine ⟨_, rfl, ?_⟩; have HO149 := Aside0.mk (Kd.R_mono (ok' := fun k_ => some k_ ≠ (v145 : Value).ownBlock) ho0 (fun k_ hk_ => Or.elim hk_ (fun hs_ => fun e_ => (((HO146.out).1 k_ e_.symm).2) hs_) (fun hn_ => (Kd.fresh' (Kd.R_lt (kR_ HO146)) k_ hn_)))); replace HO146 := Aside0.mk (Kd.R_mono (ok' := fun k_ => some k_ ≠ (v148 : Value).ownBlock) (Kd.R_keptB (HO146.out) hkp (fun k_ hk_ hs_ => (hk_.2) hs_)) (fun k_ hk_ => fun e_ => Or.elim (ho0.1 k_ e_.symm) (fun hs_ => hk_.2.1 hs_) (fun hn_ => Nat.not_le.2 hk_.2.2 hn_))); replace HB := Aside0.mk (hb); clear HO142; (try clear hb); (try clear hkp); (try clear ho0); obtain ⟨Ao15, co15, eo15⟩ := Kd.R_slice HO149.out; subst eo15) | ((with_reducible refine gate_builtin (b := .append) (xs := #[.tmp 9, .tmp 11]) rfl ?_); at_builtin; refine Kd.R_append_rows Kd.string (w0 := w) w.heap.size rfl (.tmp 9) (.tmp 11) 29 9 (.string ⟨#[]⟩) 16 rfl Try.underlying29 info9 rfl (by decide) (by omega) v145 y144 t147 _ _ _ (fun k_ => some k_ ≠ (.slice Ao15 t147.length co15 : Value).ownBlock) (fun _ => False) rfl rfl ?aO ?aR (fun _ _ h => h) (fun _ h => h.elim) ?aF ?aB ?aS ?aL ?_; (case aR => exact cr_ HO149); (case aB => exact (bl_)); (case aF => exact (fun k_ hk => Kd.fresh' (Kd.R_lt (kR_ HO149)) k_ hk)); (case aO => exact (kR_ HO146)); (case aS => exact (below_size (bl_))); (case aL => have := LMc5.out; omega); intro v151 w14 ho hb hg hat; rw [← Ny150.out] at ho; replace HO149 := Aside0.mk (Kd.R_after (ok := (fun _ => True)) (by (with_reducible repeat (first | apply Kd.R_alloc | apply Kd.R_drewN | apply Kd.R_drew)); exact Kd.R_mono HO149.out (fun _ hk => ⟨trivial, hk⟩)) hg hat); replace HB := Aside0.mk (hb); have HO152 := Aside0.mk (ho); clear HO146; clear ho hb hg hat))
 go_ret
 exact ⟨_, rfe_, by (with_reducible repeat (first | apply Kd.R_alloc | apply Kd.R_drewN | apply Kd.R_drew)); exact Kd.R_mono HO152.out (fun _ hk => trivial), bl_⟩

-- extern: function 69 (strings_Contains), see ExtContains
/-! ### impl_AffixDo: function 70 -/
def impl_AffixDo.j0 : Nat → ByteArray → Bool → ByteArray → Bool → ByteArray → ByteArray → ByteArray → Option (ByteArray × Bool)
 | 0, _, _, _, _, _, _, _ => none
 | k + 1, x1, x14, x154000, x154001, x154002, x154003, x154004 => if x14 = true then (some ((⟨#[]⟩ : ByteArray), false)) else (if x154001 = true then ((strings_HasPrefix.f x1 x154004).bind fun t156 => (if t156 = true then (if 0 ≤ (x154002.size : Int) then (if (x154002.size : Int) ≤ (x1.size : Int) then (if x154003.size + (x1.size - x154002.size) ≤ 9223372036854775807 then ((impl_WordOk.f k (x154003 ++ (x1.extract x154002.size x1.size))).bind fun t157 => (if t157 = true then (some (x154003 ++ (x1.extract x154002.size x1.size), true)) else (some ((⟨#[]⟩ : ByteArray), false)))) else (none)) else (none)) else (none)) else (some ((⟨#[]⟩ : ByteArray), false)))) else ((strings_HasSuffix.f x1 x154004).bind fun t158 => (if t158 = true then (if 0 ≤ (wrap64 ((x1.size : Int) - (x154002.size : Int))) then (if (wrap64 ((x1.size : Int) - (x154002.size : Int))) ≤ (x1.size : Int) then (if ((wrap64 ((x1.size : Int) - (x154002.size : Int))) : Int).toNat + x154003.size ≤ 9223372036854775807 then ((impl_WordOk.f k ((x1.extract 0 ((wrap64 ((x1.size : Int) - (x154002.size : Int))) : Int).toNat) ++ x154003)).bind fun t159 => (if t159 = true then (some ((x1.extract 0 ((wrap64 ((x1.size : Int) - (x154002.size : Int))) : Int).toNat) ++ x154003, true)) else (some ((⟨#[]⟩ : ByteArray), false)))) else (none)) else (none)) else (none)) else (some ((⟨#[]⟩ : ByteArray), false)))))
def impl_AffixDo.f (k : Nat) (a0_0 : ByteArray) (a0_1 : Bool) (a0_2 : ByteArray) (a0_3 : ByteArray) (a0_4 : ByteArray) (a1 : ByteArray) : Option (ByteArray × Bool) := (impl_AffixOk.f k a0_0 a0_1 a0_2 a0_3 a0_4).bind fun t154 => (if t154 = true then ((impl_WordOk.f k a1).bind fun t155 => (impl_AffixDo.j0 k a1 (!t155) a0_0 a0_1 a0_2 a0_3 a0_4)) else (impl_AffixDo.j0 k a1 true a0_0 a0_1 a0_2 a0_3 a0_4))
theorem impl_AffixDo.mono_l : ∀ k, (∀ y0 y1 y2 y3 y4 y5 y6, LeO (impl_AffixDo.j0 k y0 y1 y2 y3 y4 y5 y6) (impl_AffixDo.j0 (k + 1) y0 y1 y2 y3 y4 y5 y6))
 | 0 => fun _ _ _ _ _ _ _ r h => by simp [impl_AffixDo.j0] at h
 | k + 1 => by
  have ih0 := impl_AffixDo.mono_l k
  · intro y0 y1 y2 y3 y4 y5 y6
    unfold impl_AffixDo.j0
    have m0 := @impl_AffixOk.mono
    have m1 := @impl_WordOk.mono
    exact mn_
theorem impl_AffixDo.mono : ∀ a0 a1 a2 a3 a4 a5 k, LeO (impl_AffixDo.f k a0 a1 a2 a3 a4 a5) (impl_AffixDo.f (k + 1) a0 a1 a2 a3 a4 a5) := by
 intro a0 a1 a2 a3 a4 a5 k
 have ih0 := impl_AffixDo.mono_l k
 unfold impl_AffixDo.f
 have m0 := @impl_AffixOk.mono
 have m1 := @impl_WordOk.mono
 exact mn_
theorem impl_AffixDo.calls (k : Nat) (a0_0 : ByteArray) (a0_1 : Bool) (a0_2 : ByteArray) (a0_3 : ByteArray) (a0_4 : ByteArray) (a1 : ByteArray) (r1 : ByteArray) (r2 : Bool) (w : World) (h : impl_AffixDo.f k a0_0 a0_1 a0_2 a0_3 a0_4 a1 = some (r1, r2)) :
 Calls Try.prog 70 #[.agg #[.string a0_0, .bool a0_1, .string a0_2, .string a0_3, .string a0_4], .string a1] w fun e w' => e = .returned (.tuple #[.string r1, .bool r2]) ∧ Below w.heap.size w w' := by
 have hu68 := Try.underlying68
 have HB := Aside0.mk (Below.refl w.heap.size w)
 unfold impl_AffixDo.f at h; have H := h; clear h
 have HC3 := Aside0.mk H
 clear H
 go_enter Try.func70, Try.ntmps70
 go_upto_region 1 with (first | ((with_reducible refine gate_dst (N := 2) rfl ?_); refine be_ 2 68 #[.string a0_0, .bool a0_1, .string a0_2, .string a0_3, .string a0_4] ?_; intro gb153 hg w4 hbox hb; have BK153 := Aside0.mk (hbox); have GW153 := Aside0.mk ((gs_ hg : w.heap.size ≤ gb153)); have GE153 := Aside0.mk ((gs_ hg : w.heap.size ≤ gb153)); replace HB := Aside0.mk (below_step (bl_) hb); clear hb hbox hg))
 repeat (go_quiet (first | ((with_reducible refine gate_dst (N := 2) rfl ?_); refine be_ 2 68 #[.string a0_0, .bool a0_1, .string a0_2, .string a0_3, .string a0_4] ?_; intro gb153 hg w4 hbox hb; have BK153 := Aside0.mk (hbox); have GW153 := Aside0.mk ((gs_ hg : w.heap.size ≤ gb153)); have GE153 := Aside0.mk ((gs_ hg : w.heap.size ≤ gb153)); replace HB := Aside0.mk (below_step (bl_) hb); clear hb hbox hg)); go_upto_region 1 with (first | ((with_reducible refine gate_dst (N := 2) rfl ?_); refine be_ 2 68 #[.string a0_0, .bool a0_1, .string a0_2, .string a0_3, .string a0_4] ?_; intro gb153 hg w4 hbox hb; have BK153 := Aside0.mk (hbox); have GW153 := Aside0.mk ((gs_ hg : w.heap.size ≤ gb153)); have GE153 := Aside0.mk ((gs_ hg : w.heap.size ≤ gb153)); replace HB := Aside0.mk (below_step (bl_) hb); clear hb hbox hg)))
 (try simp only [Act.put, List.setIfInBounds_toArray, List.set_cons_zero, List.set_cons_succ])
 go_cut [14] (fun v14 wc => ∃ (kq : Nat) (x14_2 : Bool), v14 = .bool x14_2 ∧ Aside0 (impl_AffixDo.j0 kq a1 x14_2 a0_0 a0_1 a0_2 a0_3 a0_4 = some (r1, r2)) ∧ Aside0 (kq ≤ k) ∧ Aside0 (wc.heap[gb153]? = some (.cells #[.string a0_0, .bool a0_1, .string a0_2, .string a0_3, .string a0_4] 68 (0, 0))) ∧ Aside0 (Below w.heap.size w wc))
 case first =>
  have H := HC3.out
  clear HC3
  replace H := Option.bind_eq_some_iff.mp H
  obtain ⟨t154, A50, H⟩ := H; try dsimp only at H
  have A5 := Aside0.mk A50
  clear A50
  replace H := iub_ H; rcases H with ⟨rfl, H⟩ | ⟨rfl, H⟩
  · have H' := Aside0.mk H
    clear H
    have hcz10_0 := bc0_ BK153
    have hcz10_1 := bc1_ BK153
    have hcz10_2 := bc2_ BK153
    have hcz10_3 := bc3_ BK153
    have hcz10_4 := bc4_ BK153
    have hfz10_0 := blk_frozen BK153.out 0
    have hfz10_1 := blk_frozen BK153.out 1
    have hfz10_2 := blk_frozen BK153.out 2
    have hfz10_3 := blk_frozen BK153.out 3
    have hfz10_4 := blk_frozen BK153.out 4
    go_wp2_with (first | (go_at_call 66; (with_reducible refine (impl_AffixOk.calls k a0_0 a0_1 a0_2 a0_3 a0_4 false _ A5.out).mono ?_); rintro e w11 ⟨rfl, hb⟩; replace BK153 := Aside0.mk (blk_below (bk_ BK153) hb); replace HB := Aside0.mk (below_step (bl_) hb); (try clear hb); (try clear hb2); (try clear hk); (try clear hi)))
    repeat (go_quiet (first | (go_at_call 66; (with_reducible refine (impl_AffixOk.calls k a0_0 a0_1 a0_2 a0_3 a0_4 false _ A5.out).mono ?_); rintro e w11 ⟨rfl, hb⟩; replace BK153 := Aside0.mk (blk_below (bk_ BK153) hb); replace HB := Aside0.mk (below_step (bl_) hb); (try clear hb); (try clear hb2); (try clear hk); (try clear hi))); try go_wp2_with (first | (go_at_call 66; (with_reducible refine (impl_AffixOk.calls k a0_0 a0_1 a0_2 a0_3 a0_4 false _ A5.out).mono ?_); rintro e w11 ⟨rfl, hb⟩; replace BK153 := Aside0.mk (blk_below (bk_ BK153) hb); replace HB := Aside0.mk (below_step (bl_) hb); (try clear hb); (try clear hb2); (try clear hk); (try clear hi))))
    go_meet
    case rel => exact ⟨_, (true), rf_, H', ⟨by first | omega | exact Nat.le_refl _⟩, ⟨by (with_reducible repeat (first | refine blk_drewN ?_ _ | refine blk_drew ?_ | refine blk_alloc ?_ _)); exact BK153.out⟩, ⟨bl_⟩⟩
  replace H := Option.bind_eq_some_iff.mp H
  obtain ⟨t155, A70, H⟩ := H; try dsimp only at H
  have A7 := Aside0.mk A70
  clear A70
  have H' := Aside0.mk H; clear H
  have hcz8_0 := bc0_ BK153
  have hcz8_1 := bc1_ BK153
  have hcz8_2 := bc2_ BK153
  have hcz8_3 := bc3_ BK153
  have hcz8_4 := bc4_ BK153
  have hfz8_0 := blk_frozen BK153.out 0
  have hfz8_1 := blk_frozen BK153.out 1
  have hfz8_2 := blk_frozen BK153.out 2
  have hfz8_3 := blk_frozen BK153.out 3
  have hfz8_4 := blk_frozen BK153.out 4
  go_wp2_with (first | (go_at_call 66; (with_reducible refine (impl_AffixOk.calls k a0_0 a0_1 a0_2 a0_3 a0_4 true _ A5.out).mono ?_); rintro e w9 ⟨rfl, hb⟩; replace BK153 := Aside0.mk (blk_below (bk_ BK153) hb); replace HB := Aside0.mk (below_step (bl_) hb); (try clear hb); (try clear hb2); (try clear hk); (try clear hi)) | (go_at_call 22; (with_reducible refine (impl_WordOk.calls k a1 t155 _ A7.out).mono ?_); rintro e w' ⟨rfl, ⟨nd, rfl⟩⟩; (try first | exact ⟨rfl, _, World.drewN_drewN _ _ _⟩ | exact ⟨rfl, _, Eq.trans (World.drewN_drewN _ _ _) (congrArg (World.drewN _) (Nat.add_assoc _ _ _))⟩)))
  repeat (go_quiet (first | (go_at_call 66; (with_reducible refine (impl_AffixOk.calls k a0_0 a0_1 a0_2 a0_3 a0_4 true _ A5.out).mono ?_); rintro e w9 ⟨rfl, hb⟩; replace BK153 := Aside0.mk (blk_below (bk_ BK153) hb); replace HB := Aside0.mk (below_step (bl_) hb); (try clear hb); (try clear hb2); (try clear hk); (try clear hi)) | (go_at_call 22; (with_reducible refine (impl_WordOk.calls k a1 t155 _ A7.out).mono ?_); rintro e w' ⟨rfl, ⟨nd, rfl⟩⟩; (try first | exact ⟨rfl, _, World.drewN_drewN _ _ _⟩ | exact ⟨rfl, _, Eq.trans (World.drewN_drewN _ _ _) (congrArg (World.drewN _) (Nat.add_assoc _ _ _))⟩))); try go_wp2_with (first | (go_at_call 66; (with_reducible refine (impl_AffixOk.calls k a0_0 a0_1 a0_2 a0_3 a0_4 true _ A5.out).mono ?_); rintro e w9 ⟨rfl, hb⟩; replace BK153 := Aside0.mk (blk_below (bk_ BK153) hb); replace HB := Aside0.mk (below_step (bl_) hb); (try clear hb); (try clear hb2); (try clear hk); (try clear hi)) | (go_at_call 22; (with_reducible refine (impl_WordOk.calls k a1 t155 _ A7.out).mono ?_); rintro e w' ⟨rfl, ⟨nd, rfl⟩⟩; (try first | exact ⟨rfl, _, World.drewN_drewN _ _ _⟩ | exact ⟨rfl, _, Eq.trans (World.drewN_drewN _ _ _) (congrArg (World.drewN _) (Nat.add_assoc _ _ _))⟩))))
  go_meet
  case rel => exact ⟨_, (!t155), rf_, H', ⟨by first | omega | exact Nat.le_refl _⟩, ⟨by (with_reducible repeat (first | refine blk_drewN ?_ _ | refine blk_drew ?_ | refine blk_alloc ?_ _)); exact BK153.out⟩, ⟨bl_⟩⟩
 case rest =>
  clear HC3
  (try clear p2);(try clear c6);(try clear c7);(try clear hcz10_0);(try clear hcz10_1);(try clear hcz10_2);(try clear hcz10_3);(try clear hcz10_4);(try clear hcz8_0);(try clear hcz8_1);(try clear hcz8_2);(try clear hcz8_3);(try clear hcz8_4);(try clear hfz10_0);(try clear hfz10_1);(try clear hfz10_2);(try clear hfz10_3);(try clear hfz10_4);(try clear hfz8_0);(try clear hfz8_1);(try clear hfz8_2);(try clear hfz8_3);(try clear hfz8_4)
  obtain ⟨kq, x14_2, rfl, HA, HJ2, BK153, HB⟩ := hcut
  cases kq with
  | zero => exact absurd HA.out (by simp [impl_AffixDo.j0])
  | succ kj2 =>
   have H := HA.out
   clear HA
   simp only [impl_AffixDo.j0] at H
   replace H := itb_ H; rcases H with ⟨rfl, H⟩ | ⟨rfl, H⟩
   · simp only [Option.some.injEq, Prod.mk.injEq] at H
     obtain ⟨rfl, rfl⟩ := H
     go_wp2
     repeat (go_quiet (fail); try go_wp2)
     go_ret2
     exact ⟨rfe_, bl_⟩
   by_cases c13 : a0_1 = true
   · subst c13
     have H1 : ((strings_HasPrefix.f a1 a0_4).bind fun t156 => (if t156 = true then (if 0 ≤ (a0_2.size : Int) then (if (a0_2.size : Int) ≤ (a1.size : Int) then (if a0_3.size + (a1.size - a0_2.size) ≤ 9223372036854775807 then ((impl_WordOk.f kj2 (a0_3 ++ (a1.extract a0_2.size a1.size))).bind fun t157 => (if t157 = true then (some (a0_3 ++ (a1.extract a0_2.size a1.size), true)) else (some ((⟨#[]⟩ : ByteArray), false)))) else (none)) else (none)) else (none)) else (some ((⟨#[]⟩ : ByteArray), false)))) = some (r1, r2) := by rw [if_pos rfl] at H; exact H
     clear H
     have H := H1
     clear H1
     replace H := Option.bind_eq_some_iff.mp H
     obtain ⟨t156, A140, H⟩ := H; try dsimp only at H
     have A14 := Aside0.mk A140
     clear A140
     replace H := iub_ H; rcases H with ⟨rfl, H⟩ | ⟨rfl, H⟩
     · simp only [Option.some.injEq, Prod.mk.injEq] at H
       obtain ⟨rfl, rfl⟩ := H
       have hcz23_0 := bc0_ BK153
       have hcz23_1 := bc1_ BK153
       have hcz23_2 := bc2_ BK153
       have hcz23_3 := bc3_ BK153
       have hcz23_4 := bc4_ BK153
       have hfz23_0 := blk_frozen BK153.out 0
       have hfz23_1 := blk_frozen BK153.out 1
       have hfz23_2 := blk_frozen BK153.out 2
       have hfz23_3 := blk_frozen BK153.out 3
       have hfz23_4 := blk_frozen BK153.out 4
       go_wp2_with (first | (go_at_call 79; (with_reducible refine (strings_HasPrefix.calls a1 a0_4 false _ A14.out).mono ?_); rintro e w' ⟨rfl, ⟨nd, rfl⟩⟩; (try first | exact ⟨rfl, _, World.drewN_drewN _ _ _⟩ | exact ⟨rfl, _, Eq.trans (World.drewN_drewN _ _ _) (congrArg (World.drewN _) (Nat.add_assoc _ _ _))⟩)))
       repeat (go_quiet (first | (go_at_call 79; (with_reducible refine (strings_HasPrefix.calls a1 a0_4 false _ A14.out).mono ?_); rintro e w' ⟨rfl, ⟨nd, rfl⟩⟩; (try first | exact ⟨rfl, _, World.drewN_drewN _ _ _⟩ | exact ⟨rfl, _, Eq.trans (World.drewN_drewN _ _ _) (congrArg (World.drewN _) (Nat.add_assoc _ _ _))⟩))); try go_wp2_with (first | (go_at_call 79; (with_reducible refine (strings_HasPrefix.calls a1 a0_4 false _ A14.out).mono ?_); rintro e w' ⟨rfl, ⟨nd, rfl⟩⟩; (try first | exact ⟨rfl, _, World.drewN_drewN _ _ _⟩ | exact ⟨rfl, _, Eq.trans (World.drewN_drewN _ _ _) (congrArg (World.drewN _) (Nat.add_assoc _ _ _))⟩))))
       go_ret2
       exact ⟨rfe_, bl_⟩
     replace H := inc_ H; obtain ⟨c16, H⟩ := H
     have c16b0 := eq_true c16
     have c16b1 : decide (0 ≤ (a0_2.size : Int)) = true := decide_eq_true c16
     clear c16
     replace H := inc_ H; obtain ⟨c17, H⟩ := H
     have c17b0 := eq_true c17
     have c17b1 : decide ((a0_2.size : Int) ≤ (a1.size : Int)) = true := decide_eq_true c17
     clear c17
     replace H := inc_ H; obtain ⟨c18, H⟩ := H
     have c18b0 := eq_true c18
     have c18b1 : decide (a0_3.size + (a1.size - a0_2.size) ≤ 9223372036854775807) = true := decide_eq_true c18
     try have c18b2 : (9223372036854775807 < a0_3.size + (a1.size - a0_2.size)) = False := eq_false (Nat.not_lt.2 c18)
     replace H := Option.bind_eq_some_iff.mp H
     obtain ⟨t157, A190, H⟩ := H; try dsimp only at H
     have A19 := Aside0.mk A190
     clear A190
     replace H := itb_ H; rcases H with ⟨rfl, H⟩ | ⟨rfl, H⟩
     · simp only [Option.some.injEq, Prod.mk.injEq] at H
       obtain ⟨rfl, rfl⟩ := H
       have hcz21_0 := bc0_ BK153
       have hcz21_1 := bc1_ BK153
       have hcz21_2 := bc2_ BK153
       have hcz21_3 := bc3_ BK153
       have hcz21_4 := bc4_ BK153
       have hfz21_0 := blk_frozen BK153.out 0
       have hfz21_1 := blk_frozen BK153.out 1
       have hfz21_2 := blk_frozen BK153.out 2
       have hfz21_3 := blk_frozen BK153.out 3
       have hfz21_4 := blk_frozen BK153.out 4
       go_wp2_with (first | (go_at_call 79; (with_reducible refine (strings_HasPrefix.calls a1 a0_4 true _ A14.out).mono ?_); rintro e w' ⟨rfl, ⟨nd, rfl⟩⟩; (try first | exact ⟨rfl, _, World.drewN_drewN _ _ _⟩ | exact ⟨rfl, _, Eq.trans (World.drewN_drewN _ _ _) (congrArg (World.drewN _) (Nat.add_assoc _ _ _))⟩)) | (go_at_call 22; (with_reducible refine (impl_WordOk.calls kj2 (a0_3 ++ (a1.extract a0_2.size a1.size)) true _ A19.out).mono ?_); rintro e w' ⟨rfl, ⟨nd, rfl⟩⟩; (try first | exact ⟨rfl, _, World.drewN_drewN _ _ _⟩ | exact ⟨rfl, _, Eq.trans (World.drewN_drewN _ _ _) (congrArg (World.drewN _) (Nat.add_assoc _ _ _))⟩)))
       repeat (go_quiet (first | (go_at_call 79; (with_reducible refine (strings_HasPrefix.calls a1 a0_4 true _ A14.out).mono ?_); rintro e w' ⟨rfl, ⟨nd, rfl⟩⟩; (try first | exact ⟨rfl, _, World.drewN_drewN _ _ _⟩ | exact ⟨rfl, _, Eq.trans (World.drewN_drewN _ _ _) (congrArg (World.drewN _) (Nat.add_assoc _ _ _))⟩)) | (go_at_call 22; (with_reducible refine (impl_WordOk.calls kj2 (a0_3 ++ (a1.extract a0_2.size a1.size)) true _ A19.out).mono ?_); rintro e w' ⟨rfl, ⟨nd, rfl⟩⟩; (try first | exact ⟨rfl, _, World.drewN_drewN _ _ _⟩ | exact ⟨rfl, _, Eq.trans (World.drewN_drewN _ _ _) (congrArg (World.drewN _) (Nat.add_assoc _ _ _))⟩))); try go_wp2_with (first | (go_at_call 79; (with_reducible refine (strings_HasPrefix.calls a1 a0_4 true _ A14.out).mono ?_); rintro e w' ⟨rfl, ⟨nd, rfl⟩⟩; (try first | exact ⟨rfl, _, World.drewN_drewN _ _ _⟩ | exact ⟨rfl, _, Eq.trans (World.drewN_drewN _ _ _) (congrArg (World.drewN _) (Nat.add_assoc _ _ _))⟩)) | (go_at_call 22; (with_reducible refine (impl_WordOk.calls kj2 (a0_3 ++ (a1.extract a0_2.size a1.size)) true _ A19.out).mono ?_); rintro e w' ⟨rfl, ⟨nd, rfl⟩⟩; (try first | exact ⟨rfl, _, World.drewN_drewN _ _ _⟩ | exact ⟨rfl, _, Eq.trans (World.drewN_drewN _ _ _) (congrArg (World.drewN _) (Nat.add_assoc _ _ _))⟩))))
       go_ret2
       exact ⟨rfe_, bl_⟩
     simp only [Option.some.injEq, Prod.mk.injEq] at H
     obtain ⟨rfl, rfl⟩ := H
     have hcz22_0 := bc0_ BK153
     have hcz22_1 := bc1_ BK153
     have hcz22_2 := bc2_ BK153
     have hcz22_3 := bc3_ BK153
     have hcz22_4 := bc4_ BK153
     have hfz22_0 := blk_frozen BK153.out 0
     have hfz22_1 := blk_frozen BK153.out 1
     have hfz22_2 := blk_frozen BK153.out 2
     have hfz22_3 := blk_frozen BK153.out 3
     have hfz22_4 := blk_frozen BK153.out 4
     go_wp2_with (first | (go_at_call 79; (with_reducible refine (strings_HasPrefix.calls a1 a0_4 true _ A14.out).mono ?_); rintro e w' ⟨rfl, ⟨nd, rfl⟩⟩; (try first | exact ⟨rfl, _, World.drewN_drewN _ _ _⟩ | exact ⟨rfl, _, Eq.trans (World.drewN_drewN _ _ _) (congrArg (World.drewN _) (Nat.add_assoc _ _ _))⟩)) | (go_at_call 22; (with_reducible refine (impl_WordOk.calls kj2 (a0_3 ++ (a1.extract a0_2.size a1.size)) false _ A19.out).mono ?_); rintro e w' ⟨rfl, ⟨nd, rfl⟩⟩; (try first | exact ⟨rfl, _, World.drewN_drewN _ _ _⟩ | exact ⟨rfl, _, Eq.trans (World.drewN_drewN _ _ _) (congrArg (World.drewN _) (Nat.add_assoc _ _ _))⟩)))
     repeat (go_quiet (first | (go_at_call 79; (with_reducible refine (strings_HasPrefix.calls a1 a0_4 true _ A14.out).mono ?_); rintro e w' ⟨rfl, ⟨nd, rfl⟩⟩; (try first | exact ⟨rfl, _, World.drewN_drewN _ _ _⟩ | exact ⟨rfl, _, Eq.trans (World.drewN_drewN _ _ _) (congrArg (World.drewN _) (Nat.add_assoc _ _ _))⟩)) | (go_at_call 22; (with_reducible refine (impl_WordOk.calls kj2 (a0_3 ++ (a1.extract a0_2.size a1.size)) false _ A19.out).mono ?_); rintro e w' ⟨rfl, ⟨nd, rfl⟩⟩; (try first | exact ⟨rfl, _, World.drewN_drewN _ _ _⟩ | exact ⟨rfl, _, Eq.trans (World.drewN_drewN _ _ _) (congrArg (World.drewN _) (Nat.add_assoc _ _ _))⟩))); try go_wp2_with (first | (go_at_call 79; (with_reducible refine (strings_HasPrefix.calls a1 a0_4 true _ A14.out).mono ?_); rintro e w' ⟨rfl, ⟨nd, rfl⟩⟩; (try first | exact ⟨rfl, _, World.drewN_drewN _ _ _⟩ | exact ⟨rfl, _, Eq.trans (World.drewN_drewN _ _ _) (congrArg (World.drewN _) (Nat.add_assoc _ _ _))⟩)) | (go_at_call 22; (with_reducible refine (impl_WordOk.calls kj2 (a0_3 ++ (a1.extract a0_2.size a1.size)) false _ A19.out).mono ?_); rintro e w' ⟨rfl, ⟨nd, rfl⟩⟩; (try first | exact ⟨rfl, _, World.drewN_drewN _ _ _⟩ | exact ⟨rfl, _, Eq.trans (World.drewN_drewN _ _ _) (congrArg (World.drewN _) (Nat.add_assoc _ _ _))⟩))))
     go_ret2
     exact ⟨rfe_, bl_⟩
   · replace c13 := Bool.eq_false_iff.mpr c13
     subst c13
     have H1 : ((strings_HasSuffix.f a1 a0_4).bind fun t158 => (if t158 = true then (if 0 ≤ (wrap64 ((a1.size : Int) - (a0_2.size : Int))) then (if (wrap64 ((a1.size : Int) - (a0_2.size : Int))) ≤ (a1.size : Int) then (if ((wrap64 ((a1.size : Int) - (a0_2.size : Int))) : Int).toNat + a0_3.size ≤ 9223372036854775807 then ((impl_WordOk.f kj2 ((a1.extract 0 ((wrap64 ((a1.size : Int) - (a0_2.size : Int))) : Int).toNat) ++ a0_3)).bind fun t159 => (if t159 = true then (some ((a1.extract 0 ((wrap64 ((a1.size : Int) - (a0_2.size : Int))) : Int).toNat) ++ a0_3, true)) else (some ((⟨#[]⟩ : ByteArray), false)))) else (none)) else (none)) else (none)) else (some ((⟨#[]⟩ : ByteArray), false)))) = some (r1, r2) := by rw [if_neg (show ¬ (false = true) by decide)] at H; exact H
     clear H
     have H := H1
     clear H1
     replace H := Option.bind_eq_some_iff.mp H
     obtain ⟨t158, A240, H⟩ := H; try dsimp only at H
     have A24 := Aside0.mk A240
     clear A240
     replace H := iub_ H; rcases H with ⟨rfl, H⟩ | ⟨rfl, H⟩
     · simp only [Option.some.injEq, Prod.mk.injEq] at H
       obtain ⟨rfl, rfl⟩ := H
       have hcz34_0 := bc0_ BK153
       have hcz34_1 := bc1_ BK153
       have hcz34_2 := bc2_ BK153
       have hcz34_3 := bc3_ BK153
       have hcz34_4 := bc4_ BK153
       have hfz34_0 := blk_frozen BK153.out 0
       have hfz34_1 := blk_frozen BK153.out 1
       have hfz34_2 := blk_frozen BK153.out 2
       have hfz34_3 := blk_frozen BK153.out 3
       have hfz34_4 := blk_frozen BK153.out 4
       go_wp2_with (first | (go_at_call 80; (with_reducible refine (strings_HasSuffix.calls a1 a0_4 false _ A24.out).mono ?_); rintro e w' ⟨rfl, ⟨nd, rfl⟩⟩; (try first | exact ⟨rfl, _, World.drewN_drewN _ _ _⟩ | exact ⟨rfl, _, Eq.trans (World.drewN_drewN _ _ _) (congrArg (World.drewN _) (Nat.add_assoc _ _ _))⟩)))
       repeat (go_quiet (first | (go_at_call 80; (with_reducible refine (strings_HasSuffix.calls a1 a0_4 false _ A24.out).mono ?_); rintro e w' ⟨rfl, ⟨nd, rfl⟩⟩; (try first | exact ⟨rfl, _, World.drewN_drewN _ _ _⟩ | exact ⟨rfl, _, Eq.trans (World.drewN_drewN _ _ _) (congrArg (World.drewN _) (Nat.add_assoc _ _ _))⟩))); try go_wp2_with (first | (go_at_call 80; (with_reducible refine (strings_HasSuffix.calls a1 a0_4 false _ A24.out).mono ?_); rintro e w' ⟨rfl, ⟨nd, rfl⟩⟩; (try first | exact ⟨rfl, _, World.drewN_drewN _ _ _⟩ | exact ⟨rfl, _, Eq.trans (World.drewN_drewN _ _ _) (congrArg (World.drewN _) (Nat.add_assoc _ _ _))⟩))))
       go_ret2
       exact ⟨rfe_, bl_⟩
     obtain ⟨ji26, hji26⟩ : ∃ j_ : Int, (wrap64 ((a1.size : Int) - (a0_2.size : Int))) = j_ := ⟨_, rfl⟩
     replace H : (if 0 ≤ (ji26) then (if (ji26) ≤ (a1.size : Int) then (if ((ji26) : Int).toNat + a0_3.size ≤ 9223372036854775807 then ((impl_WordOk.f kj2 ((a1.extract 0 ((ji26) : Int).toNat) ++ a0_3)).bind fun t159 => (if t159 = true then (some ((a1.extract 0 ((ji26) : Int).toNat) ++ a0_3, true)) else (some ((⟨#[]⟩ : ByteArray), false)))) else (none)) else (none)) else (none)) = some (r1, r2) := by first | (rw [hji26] at H; exact H) | (simp only [hji26] at H ⊢; exact H)
     (try rw [hji26] at A24)
     have hji26w : (IntKind.i64.wrap ((a1.size : Int) - (a0_2.size : Int))) = ji26 := (i64_w _).trans hji26
     replace H := inc_ H; obtain ⟨c27, H⟩ := H
     have c27b0 := eq_true c27
     have c27b1 : decide (0 ≤ (ji26)) = true := decide_eq_true c27
     clear c27
     replace H := inc_ H; obtain ⟨c28, H⟩ := H
     have c28b0 := eq_true c28
     have c28b1 : decide ((ji26) ≤ (a1.size : Int)) = true := decide_eq_true c28
     clear c28
     replace H := inc_ H; obtain ⟨c29, H⟩ := H
     have c29b0 := eq_true c29
     have c29b1 : decide (((ji26) : Int).toNat + a0_3.size ≤ 9223372036854775807) = true := decide_eq_true c29
     try have c29b2 : (9223372036854775807 < ((ji26) : Int).toNat + a0_3.size) = False := eq_false (Nat.not_lt.2 c29)
     replace H := Option.bind_eq_some_iff.mp H
     obtain ⟨t159, A300, H⟩ := H; try dsimp only at H
     have A30 := Aside0.mk A300
     clear A300
     replace H := itb_ H; rcases H with ⟨rfl, H⟩ | ⟨rfl, H⟩
     · simp only [Option.some.injEq, Prod.mk.injEq] at H
       obtain ⟨rfl, rfl⟩ := H
       have hcz32_0 := bc0_ BK153
       have hcz32_1 := bc1_ BK153
       have hcz32_2 := bc2_ BK153
       have hcz32_3 := bc3_ BK153
       have hcz32_4 := bc4_ BK153
       have hfz32_0 := blk_frozen BK153.out 0
       have hfz32_1 := blk_frozen BK153.out 1
       have hfz32_2 := blk_frozen BK153.out 2
       have hfz32_3 := blk_frozen BK153.out 3
       have hfz32_4 := blk_frozen BK153.out 4
       go_wp2_with (first | (go_at_call 80; (with_reducible refine (strings_HasSuffix.calls a1 a0_4 true _ A24.out).mono ?_); rintro e w' ⟨rfl, ⟨nd, rfl⟩⟩; (try first | exact ⟨rfl, _, World.drewN_drewN _ _ _⟩ | exact ⟨rfl, _, Eq.trans (World.drewN_drewN _ _ _) (congrArg (World.drewN _) (Nat.add_assoc _ _ _))⟩)) | (go_at_call 22; (with_reducible refine (impl_WordOk.calls kj2 ((a1.extract 0 ((ji26) : Int).toNat) ++ a0_3) true _ A30.out).mono ?_); rintro e w' ⟨rfl, ⟨nd, rfl⟩⟩; (try first | exact ⟨rfl, _, World.drewN_drewN _ _ _⟩ | exact ⟨rfl, _, Eq.trans (World.drewN_drewN _ _ _) (congrArg (World.drewN _) (Nat.add_assoc _ _ _))⟩)))
       repeat (go_quiet (first | (go_at_call 80; (with_reducible refine (strings_HasSuffix.calls a1 a0_4 true _ A24.out).mono ?_); rintro e w' ⟨rfl, ⟨nd, rfl⟩⟩; (try first | exact ⟨rfl, _, World.drewN_drewN _ _ _⟩ | exact ⟨rfl, _, Eq.trans (World.drewN_drewN _ _ _) (congrArg (World.drewN _) (Nat.add_assoc _ _ _))⟩)) | (go_at_call 22; (with_reducible refine (impl_WordOk.calls kj2 ((a1.extract 0 ((ji26) : Int).toNat) ++ a0_3) true _ A30.out).mono ?_); rintro e w' ⟨rfl, ⟨nd, rfl⟩⟩; (try first | exact ⟨rfl, _, World.drewN_drewN _ _ _⟩ | exact ⟨rfl, _, Eq.trans (World.drewN_drewN _ _ _) (congrArg (World.drewN _) (Nat.add_assoc _ _ _))⟩))); try go_wp2_with (first | (go_at_call 80; (with_reducible refine (strings_HasSuffix.calls a1 a0_4 true _ A24.out).mono ?_); rintro e w' ⟨rfl, ⟨nd, rfl⟩⟩; (try first | exact ⟨rfl, _, World.drewN_drewN _ _ _⟩ | exact ⟨rfl, _, Eq.trans (World.drewN_drewN _ _ _) (congrArg (World.drewN _) (Nat.add_assoc _ _ _))⟩)) | (go_at_call 22; (with_reducible refine (impl_WordOk.calls kj2 ((a1.extract 0 ((ji26) : Int).toNat) ++ a0_3) true _ A30.out).mono ?_); rintro e w' ⟨rfl, ⟨nd, rfl⟩⟩; (try first | exact ⟨rfl, _, World.drewN_drewN _ _ _⟩ | exact ⟨rfl, _, Eq.trans (World.drewN_drewN _ _ _) (congrArg (World.drewN _) (Nat.add_assoc _ _ _))⟩))))
       go_ret2
       exact ⟨by first | rfl | (simp [errW_none, errW_some] <;> rfl) | (simp only [← hji26]; first | rfl | (simp [errW_none, errW_some] <;> rfl)) | (simp [*, errW_none, errW_some] <;> rfl), bl_⟩
     simp only [Option.some.injEq, Prod.mk.injEq] at H
     obtain ⟨rfl, rfl⟩ := H
     have hcz33_0 := bc0_ BK153
     have hcz33_1 := bc1_ BK153
     have hcz33_2 := bc2_ BK153
     have hcz33_3 := bc3_ BK153
     have hcz33_4 := bc4_ BK153
     have hfz33_0 := blk_frozen BK153.out 0
     have hfz33_1 := blk_frozen BK153.out 1
     have hfz33_2 := blk_frozen BK153.out 2
     have hfz33_3 := blk_frozen BK153.out 3
     have hfz33_4 := blk_frozen BK153.out 4
     go_wp2_with (first | (go_at_call 80; (with_reducible refine (strings_HasSuffix.calls a1 a0_4 true _ A24.out).mono ?_); rintro e w' ⟨rfl, ⟨nd, rfl⟩⟩; (try first | exact ⟨rfl, _, World.drewN_drewN _ _ _⟩ | exact ⟨rfl, _, Eq.trans (World.drewN_drewN _ _ _) (congrArg (World.drewN _) (Nat.add_assoc _ _ _))⟩)) | (go_at_call 22; (with_reducible refine (impl_WordOk.calls kj2 ((a1.extract 0 ((ji26) : Int).toNat) ++ a0_3) false _ A30.out).mono ?_); rintro e w' ⟨rfl, ⟨nd, rfl⟩⟩; (try first | exact ⟨rfl, _, World.drewN_drewN _ _ _⟩ | exact ⟨rfl, _, Eq.trans (World.drewN_drewN _ _ _) (congrArg (World.drewN _) (Nat.add_assoc _ _ _))⟩)))
     repeat (go_quiet (first | (go_at_call 80; (with_reducible refine (strings_HasSuffix.calls a1 a0_4 true _ A24.out).mono ?_); rintro e w' ⟨rfl, ⟨nd, rfl⟩⟩; (try first | exact ⟨rfl, _, World.drewN_drewN _ _ _⟩ | exact ⟨rfl, _, Eq.trans (World.drewN_drewN _ _ _) (congrArg (World.drewN _) (Nat.add_assoc _ _ _))⟩)) | (go_at_call 22; (with_reducible refine (impl_WordOk.calls kj2 ((a1.extract 0 ((ji26) : Int).toNat) ++ a0_3) false _ A30.out).mono ?_); rintro e w' ⟨rfl, ⟨nd, rfl⟩⟩; (try first | exact ⟨rfl, _, World.drewN_drewN _ _ _⟩ | exact ⟨rfl, _, Eq.trans (World.drewN_drewN _ _ _) (congrArg (World.drewN _) (Nat.add_assoc _ _ _))⟩))); try go_wp2_with (first | (go_at_call 80; (with_reducible refine (strings_HasSuffix.calls a1 a0_4 true _ A24.out).mono ?_); rintro e w' ⟨rfl, ⟨nd, rfl⟩⟩; (try first | exact ⟨rfl, _, World.drewN_drewN _ _ _⟩ | exact ⟨rfl, _, Eq.trans (World.drewN_drewN _ _ _) (congrArg (World.drewN _) (Nat.add_assoc _ _ _))⟩)) | (go_at_call 22; (with_reducible refine (impl_WordOk.calls kj2 ((a1.extract 0 ((ji26) : Int).toNat) ++ a0_3) false _ A30.out).mono ?_); rintro e w' ⟨rfl, ⟨nd, rfl⟩⟩; (try first | exact ⟨rfl, _, World.drewN_drewN _ _ _⟩ | exact ⟨rfl, _, Eq.trans (World.drewN_drewN _ _ _) (congrArg (World.drewN _) (Nat.add_assoc _ _ _))⟩))))
     go_ret2
     exact ⟨by first | rfl | (simp [errW_none, errW_some] <;> rfl) | (simp only [← hji26]; first | rfl | (simp [errW_none, errW_some] <;> rfl)) | (simp [*, errW_none, errW_some] <;> rfl), bl_⟩

end Go.Proofs.Ytbopiacjioedeaa.P
