-- Written by a program of this session (wip/gen/gen.py) out of Lean's print of the loaded program; Lean checks it.
import Derived.Test.YtbopiacjioedeaaP0
import Derived.Test.YtbopiacjioedeaaSq2
import Derived.Test.YtbopiacjioedeaaP13
import Derived.Test.YtbopiacjioedeaaP19
import Derived.Test.YtbopiacjioedeaaP20
import Derived.Test.YtbopiacjioedeaaTab
namespace Go.Proofs.Ytbopiacjioedeaa.P
open Go.RowKit Go.Proofs.YtbopiacjioedeaaW.PrintWords Go.Proofs.YtbopiacjioedeaaW.PrintLast Go.Proofs.YtbopiacjioedeaaW.PrintMore
attribute [local go_sem] max2_int min2_int max_two min_two max_three min_three max_four min_four IntKind.wrap_u8 IntKind.wrap_u32 w64_256 w64_u32
set_option maxHeartbeats 8000000
set_option maxRecDepth 100000
set_option linter.unusedVariables false
set_option linter.unusedSimpArgs false

/-! ### laws_FnPartsOf: function 3 -/
mutual
def laws_FnPartsOf.j0 : Nat → ByteArray → List ByteArray → Bool → List (S68) → List (S73) → Option (Bool)
 | 0, _, _, _, _, _ => none
 | k + 1, x4, x5, x29, x562000, x562001 => if x29 = true then ((spec_PartsOf.f k x562000 x562001 x4).bind fun t569 => ((laws_mdTexts.f k x5 t569).bind fun t572 => (some t572))) else (laws_FnPartsOf.l0 k x4 x5 (⟨#[]⟩ : ByteArray) 0 x562000 x562001)
def laws_FnPartsOf.l0 : Nat → ByteArray → List ByteArray → ByteArray → Int → List (S68) → List (S73) → Option (Bool)
 | 0, _, _, _, _, _, _ => none
 | k + 1, x4, x5, x6, x7, x562000, x562001 => if x7 < (x5.length : Int) then (if 0 ≤ x7 then ((impl_BookKnows.f k x562000 x562001 (rdOf ByteArray.empty x5 x7)).bind fun t574 => (if t574 = true then (if ((rdOf ByteArray.empty x5 x7).size : Int) < 3 then (some false) else (if x6.size + (rdOf ByteArray.empty x5 x7).size ≤ 9223372036854775807 then (laws_FnPartsOf.l0 k x4 x5 (x6 ++ (rdOf ByteArray.empty x5 x7)) (wrap64 (x7 + 1)) x562000 x562001) else (none))) else (some false))) else (none)) else (if x6.toList = x4.toList then (if (x5.length : Int) = 2 then (some true) else (some ((x5.length : Int) == 3))) else (some false))
end
def laws_FnPartsOf.f (k : Nat) (l0 : List Int) : Option (Bool) := if (l0.length : Int) > 1048576 then (some true) else ((spec_DrawPartsOf.f k l0).bind fun bt554 => ((impl_PartsOf.f k bt554.1 bt554.2.1 bt554.2.2).bind fun t562 => ((spec_PartsOf.f k bt554.1 bt554.2.1 bt554.2.2).bind fun t565 => ((laws_mdTexts.f k t562 t565).bind fun t568 => (if t568 = true then (laws_FnPartsOf.j0 k bt554.2.2 t562 ((t562.length : Int) == 0) bt554.1 bt554.2.1) else (laws_FnPartsOf.j0 k bt554.2.2 t562 true bt554.1 bt554.2.1))))))
theorem laws_FnPartsOf.mono_l : ∀ k, (∀ y0 y1 y2 y3 y4, LeO (laws_FnPartsOf.j0 k y0 y1 y2 y3 y4) (laws_FnPartsOf.j0 (k + 1) y0 y1 y2 y3 y4)) ∧ (∀ y0 y1 y2 y3 y4 y5, LeO (laws_FnPartsOf.l0 k y0 y1 y2 y3 y4 y5) (laws_FnPartsOf.l0 (k + 1) y0 y1 y2 y3 y4 y5))
 | 0 => ⟨fun _ _ _ _ _ r h => by simp [laws_FnPartsOf.j0] at h, fun _ _ _ _ _ _ r h => by simp [laws_FnPartsOf.l0] at h⟩
 | k + 1 => by
  obtain ⟨ih0, ih1⟩ := laws_FnPartsOf.mono_l k
  refine ⟨?_, ?_⟩
  · intro y0 y1 y2 y3 y4
    unfold laws_FnPartsOf.j0
    have m0 := @impl_BookKnows.mono
    have m1 := @impl_PartsOf.mono
    have m2 := @laws_mdTexts.mono
    have m3 := @spec_DrawPartsOf.mono
    have m4 := @spec_PartsOf.mono
    exact mn_
  · intro y0 y1 y2 y3 y4 y5
    unfold laws_FnPartsOf.l0
    have m0 := @impl_BookKnows.mono
    have m1 := @impl_PartsOf.mono
    have m2 := @laws_mdTexts.mono
    have m3 := @spec_DrawPartsOf.mono
    have m4 := @spec_PartsOf.mono
    exact mn_
theorem laws_FnPartsOf.mono : ∀ a0 k, LeO (laws_FnPartsOf.f k a0) (laws_FnPartsOf.f (k + 1) a0) := by
 intro a0 k
 obtain ⟨ih0, ih1⟩ := laws_FnPartsOf.mono_l k
 unfold laws_FnPartsOf.f
 have m0 := @impl_BookKnows.mono
 have m1 := @impl_PartsOf.mono
 have m2 := @laws_mdTexts.mono
 have m3 := @spec_DrawPartsOf.mono
 have m4 := @spec_PartsOf.mono
 exact mn_
def laws_FnPartsOf.T11 : Bool × List (List Nat × List Nat) := (true, [([], []), ([], []), ([], []), ([1, 2], [1, 2]), ([3], [3]), ([0, 4], [0, 4]), ([5], [5]), ([6, 5], [6]), ([7], [7]), ([7], [7]), ([8, 9, 7], [7, 8, 9]), ([10, 7], [7, 10]), ([11, 7], [7, 11]), ([12, 7], [7, 12]), ([7, 13], [7, 13])])
def laws_FnPartsOf.B11 : List Nat := [0, 0, 0, 6, 14, 31, 63, 127, 255, 255, 1023, 2047, 4095, 8191, 16383]
theorem laws_FnPartsOf.tab11 : rtab .any (opsOf Try.f3 11) = laws_FnPartsOf.T11 := by kernel_rfl
theorem laws_FnPartsOf.bits11 : waitsOk laws_FnPartsOf.T11.2 laws_FnPartsOf.B11 = true := by kernel_rfl
theorem laws_FnPartsOf.calls (k : Nat) (A0 : Option Addr) (c0 : Nat) (l0 : List Int) (r : Bool) (w : World) (hr0 : Kd.C (Kd.int .u8) w A0 l0.length l0) (hc0 : l0.length ≤ c0) (hT : Tab w) (h : laws_FnPartsOf.f k l0 = some r) :
 Calls Try.prog 3 #[.slice A0 l0.length c0] w fun e w' => e = .returned (.bool r) ∧ Below w.heap.size w w' := by
 have hu26 := Try.underlying26
 have HR0 := Aside0.mk hr0
 have HC0 := Aside0.mk hc0
 clear hr0 hc0
 have HTb := Aside0.mk hT
 clear hT
 have HB := Aside0.mk (Below.refl w.heap.size w)
 unfold laws_FnPartsOf.f at h; have H := h; clear h
 replace H := itcc_ H; rcases H with ⟨c2, H⟩ | ⟨c2, H⟩
 · have c2b0 : decide (1048576 < (l0.length : Int)) = true := decide_eq_true c2
   have c2b1 : decide (1048576 < l0.length) = true := decide_eq_true (by omega)
   clear c2
   obtain rfl := Option.some.inj H
   go_enter Try.func3, Try.ntmps3
   go_wp2
   go_ret
   exact ⟨rfe_, bl_⟩
 have c2b0 : decide (1048576 < (l0.length : Int)) = false := decide_eq_false c2
 have c2b1 : decide (1048576 < l0.length) = false := decide_eq_false (by omega)
 clear c2
 replace H := Option.bind_eq_some_iff.mp H
 obtain ⟨⟨t554, t557, t560⟩, A30, H⟩ := H; try dsimp only at H
 have A3 := Aside0.mk A30
 clear A30
 replace H := Option.bind_eq_some_iff.mp H
 obtain ⟨t562, A40, H⟩ := H; try dsimp only at H
 have A4 := Aside0.mk A40
 clear A40
 have HC5 := Aside0.mk H
 clear H
 go_enter Try.func3, Try.ntmps3
 go_upto_region 5 with (first | ((with_reducible refine gate_callee (f := 5) rfl ?_); refine gl_ 13 Try.func5 #[.slice A0 l0.length c0] ?_; (with_reducible refine (spec_DrawPartsOf.calls k _ _ l0 t554 t557 t560 _ ?side1 ?side2 A3.out).mono ?_); (case side1 => repeat (first | exact HR0.out | (with_reducible refine Kd.C_alloc ?_ _) | (with_reducible refine Kd.C_drewN ?_ _) | (with_reducible refine Kd.C_drew ?_))); (case side2 => exact HC0.out); rintro e w6 ⟨v555, v558, rfl, ho0, ho1, hb⟩; refine ⟨_, rfl, ?_⟩; have HO556 := Aside0.mk (Kd.R_lower ho0 (below_size (bl_))); have HO559 := Aside0.mk (Kd.R_lower ho1 (below_size (bl_))); replace HB := Aside0.mk (below_step (bl_) hb); (try clear hb); (try clear hb2); (try clear hk); (try clear hi); (try clear ho0); (try clear ho1)) | ((with_reducible refine gate_dst (N := 3) rfl ?_); (try (refine gate_guard (by rfl) ?_; dsimp only)); refine be_ 3 26 #[.slice none 0 0, .slice none 0 0] ?_; intro gb561 hg w7 hbox hb; replace HO556 := Aside0.mk (Kd.R_below (kR_ HO556) hb); replace HO559 := Aside0.mk (Kd.R_below (kR_ HO559) hb); have BK561 := Aside0.mk (hbox); have GW561 := Aside0.mk ((gs_ hg : w.heap.size ≤ gb561)); have GE561 := Aside0.mk ((gs_ hg : w.heap.size ≤ gb561)); replace HB := Aside0.mk (below_step (bl_) hb); clear hb hbox hg; obtain ⟨Ao8, co8, eo8⟩ := Kd.R_slice HO556.out; subst eo8; have hcz9_0 := bc0_ BK561; have hcz9_1 := bc1_ BK561; have hfz9_0 := blk_frozen BK561.out 0; have hfz9_1 := blk_frozen BK561.out 1; obtain ⟨Ao10, co10, eo10⟩ := Kd.R_slice HO559.out; subst eo10) | ((with_reducible refine gate_callee (f := 6) rfl ?_); refine gl_ 18 Try.func6 #[.agg #[.slice Ao8 t554.length co8, .slice Ao10 t557.length co10], .string t560] ?_; (with_reducible refine (impl_PartsOf.calls k _ _ t554 _ _ t557 t560 t562 _ ?side1 ?side2 ?side3 ?side4 ?side5 A4.out).mono ?_); (case side1 => refine (Kd.R_reads' (e := 68) (base := w.heap.size) (ok := fun k_ => True) (n := t554.length) (c := co8) ?_).2.2; exact (by (with_reducible repeat (first | apply Kd.R_alloc | apply Kd.R_drewN | apply Kd.R_drew)); exact (Kd.R_mono (Kd.R_far (p := ⟨gb561, 1, none⟩) (Kd.R_far (p := ⟨gb561, 0, none⟩) (Kd.R_types HO556.out BK561.out (by decide)) (fun _ hk => hk.2) (.slice Ao8 t554.length co8)) (fun _ hk => hk.2) (.slice Ao10 t557.length co10)) (fun _ h_ => h_.1)))); (case side2 => exact (Kd.R_reads' HO556.out).2.1); (case side3 => refine (Kd.R_reads' (e := 73) (base := w.heap.size) (ok := fun k_ => True) (n := t557.length) (c := co10) ?_).2.2; exact (by (with_reducible repeat (first | apply Kd.R_alloc | apply Kd.R_drewN | apply Kd.R_drew)); exact (Kd.R_mono (Kd.R_far (p := ⟨gb561, 1, none⟩) (Kd.R_far (p := ⟨gb561, 0, none⟩) (Kd.R_types HO559.out BK561.out (by decide)) (fun _ hk => hk.2) (.slice Ao8 t554.length co8)) (fun _ hk => hk.2) (.slice Ao10 t557.length co10)) (fun _ h_ => h_.1)))); (case side4 => exact (Kd.R_reads' HO559.out).2.1); (case side5 => exact tab_below HTb.out (bl_)); rintro e w11 ⟨v563, rfl, ho0, hb⟩; refine ⟨_, rfl, ?_⟩; replace HO556 := Aside0.mk (Kd.R_below (by (with_reducible repeat (first | apply Kd.R_alloc | apply Kd.R_drewN | apply Kd.R_drew)); exact (Kd.R_mono (Kd.R_far (p := ⟨gb561, 1, none⟩) (Kd.R_far (p := ⟨gb561, 0, none⟩) (Kd.R_types HO556.out BK561.out (by decide)) (fun _ hk => hk.2) (.slice Ao8 t554.length co8)) (fun _ hk => hk.2) (.slice Ao10 t557.length co10)) (fun _ h_ => h_.1))) hb); replace HO559 := Aside0.mk (Kd.R_below (by (with_reducible repeat (first | apply Kd.R_alloc | apply Kd.R_drewN | apply Kd.R_drew)); exact (Kd.R_mono (Kd.R_far (p := ⟨gb561, 1, none⟩) (Kd.R_far (p := ⟨gb561, 0, none⟩) (Kd.R_types HO559.out BK561.out (by decide)) (fun _ hk => hk.2) (.slice Ao8 t554.length co8)) (fun _ hk => hk.2) (.slice Ao10 t557.length co10)) (fun _ h_ => h_.1))) hb); have HO564 := Aside0.mk (Kd.R_lower ho0 (below_size (bl_))); replace BK561 := Aside0.mk (blk_below (g := gb561) (o := .cells #[.slice Ao8 t554.length co8, .slice Ao10 t557.length co10] 26 (0, 0)) bq_ hb); replace HB := Aside0.mk (below_step (bl_) hb); (try clear hb); (try clear hb2); (try clear hk); (try clear hi); (try clear ho0)))
 (try simp only [Act.put, List.setIfInBounds_toArray, List.set_cons_zero, List.set_cons_succ])
 go_cut [29] (fun v29 wc => ∃ (kq : Nat) (x29_4 : Bool), v29 = .bool x29_4 ∧ Aside0 (laws_FnPartsOf.j0 kq t560 t562 x29_4 t554 t557 = some r) ∧ Aside0 (kq ≤ k) ∧ Aside0 (Kd.R Kd.string 9 wc w.heap.size (fun _ => True) v563 t562) ∧ Aside0 (Kd.R k68 68 wc w.heap.size (fun _ => True) (.slice Ao8 t554.length co8) t554) ∧ Aside0 (Kd.R k73 73 wc w.heap.size (fun _ => True) (.slice Ao10 t557.length co10) t557) ∧ Aside0 (wc.heap[gb561]? = some (.cells #[(.slice Ao8 t554.length co8), (.slice Ao10 t557.length co10)] 26 (0, 0))) ∧ Aside0 (Below w.heap.size w wc))
 case first =>
  have H := HC5.out
  clear HC5
  replace H := Option.bind_eq_some_iff.mp H
  obtain ⟨t565, A120, H⟩ := H; try dsimp only at H
  have A12 := Aside0.mk A120
  clear A120
  replace H := Option.bind_eq_some_iff.mp H
  obtain ⟨t568, A130, H⟩ := H; try dsimp only at H
  have A13 := Aside0.mk A130
  clear A130
  replace H := iub_ H; rcases H with ⟨rfl, H⟩ | ⟨rfl, H⟩
  · have H' := Aside0.mk H
    clear H
    have hcz19_0 := bc0_ BK561
    have hcz19_1 := bc1_ BK561
    have hfz19_0 := blk_frozen BK561.out 0
    have hfz19_1 := blk_frozen BK561.out 1
    go_wp2_with (first | ((with_reducible refine gate_callee (f := 8) rfl ?_); refine gl_ 22 Try.func8 #[.agg #[.slice Ao8 t554.length co8, .slice Ao10 t557.length co10], .string t560] ?_; (with_reducible refine (spec_PartsOf.calls k _ _ t554 _ _ t557 t560 t565 _ ?side1 ?side2 ?side3 ?side4 A12.out).mono ?_); (case side1 => exact cr_ HO556); (case side2 => exact (Kd.R_reads' HO556.out).2.1); (case side3 => exact cr_ HO559); (case side4 => exact (Kd.R_reads' HO559.out).2.1); rintro e w20 ⟨v566, rfl, ho0, hb⟩; refine ⟨_, rfl, ?_⟩; replace HO556 := Aside0.mk (Kd.R_below (kR_ HO556) hb); replace HO559 := Aside0.mk (Kd.R_below (kR_ HO559) hb); have HO567 := Aside0.mk (Kd.R_lower (Kd.R_new' ho0 (Kd.R_lt (kR_ HO564))) (below_size (bl_))); replace HO564 := Aside0.mk (Kd.R_elder' (kR_ HO564) (Kd.R_base ho0) hb); replace BK561 := Aside0.mk (blk_below (bk_ BK561) hb); replace HB := Aside0.mk (below_step (bl_) hb); (try clear hb); (try clear hb2); (try clear hk); (try clear hi); (try clear ho0); obtain ⟨Ao21, co21, eo21⟩ := Kd.R_slice HO564.out; subst eo21; obtain ⟨Ao22, co22, eo22⟩ := Kd.R_slice HO567.out; subst eo22) | ((with_reducible refine gate_callee (f := 7) rfl ?_); refine gl_ 23 Try.func7 #[.slice Ao21 t562.length co21, .slice Ao22 t565.length co22] ?_; (with_reducible refine (laws_mdTexts.calls k _ _ t562 _ _ t565 false _ ?side1 ?side2 ?side3 ?side4 A13.out).mono ?_); (case side1 => exact cr_ HO564); (case side2 => exact (Kd.R_reads' HO564.out).2.1); (case side3 => exact cr_ HO567); (case side4 => exact (Kd.R_reads' HO567.out).2.1); rintro e w' ⟨rfl, ⟨nd, rfl⟩⟩; refine ⟨_, rfl, ?_⟩))
    go_meet
    case rel => exact ⟨_, (true), rf_, H', ⟨by first | omega | exact Nat.le_refl _⟩, ⟨by (with_reducible repeat (first | apply Kd.R_alloc | apply Kd.R_drewN | apply Kd.R_drew)); exact Kd.R_mono HO564.out (fun _ hk => trivial)⟩, ⟨kR_ HO556⟩, ⟨kR_ HO559⟩, ⟨by (with_reducible repeat (first | refine blk_drewN ?_ _ | refine blk_drew ?_ | refine blk_alloc ?_ _)); exact BK561.out⟩, ⟨bl_⟩⟩
  have H' := Aside0.mk H; clear H
  have hcz15_0 := bc0_ BK561
  have hcz15_1 := bc1_ BK561
  have hfz15_0 := blk_frozen BK561.out 0
  have hfz15_1 := blk_frozen BK561.out 1
  go_wp2_with (first | ((with_reducible refine gate_callee (f := 8) rfl ?_); refine gl_ 22 Try.func8 #[.agg #[.slice Ao8 t554.length co8, .slice Ao10 t557.length co10], .string t560] ?_; (with_reducible refine (spec_PartsOf.calls k _ _ t554 _ _ t557 t560 t565 _ ?side1 ?side2 ?side3 ?side4 A12.out).mono ?_); (case side1 => exact cr_ HO556); (case side2 => exact (Kd.R_reads' HO556.out).2.1); (case side3 => exact cr_ HO559); (case side4 => exact (Kd.R_reads' HO559.out).2.1); rintro e w16 ⟨v566, rfl, ho0, hb⟩; refine ⟨_, rfl, ?_⟩; replace HO556 := Aside0.mk (Kd.R_below (kR_ HO556) hb); replace HO559 := Aside0.mk (Kd.R_below (kR_ HO559) hb); have HO567 := Aside0.mk (Kd.R_lower (Kd.R_new' ho0 (Kd.R_lt (kR_ HO564))) (below_size (bl_))); replace HO564 := Aside0.mk (Kd.R_elder' (kR_ HO564) (Kd.R_base ho0) hb); replace BK561 := Aside0.mk (blk_below (bk_ BK561) hb); replace HB := Aside0.mk (below_step (bl_) hb); (try clear hb); (try clear hb2); (try clear hk); (try clear hi); (try clear ho0); obtain ⟨Ao17, co17, eo17⟩ := Kd.R_slice HO564.out; subst eo17; obtain ⟨Ao18, co18, eo18⟩ := Kd.R_slice HO567.out; subst eo18) | ((with_reducible refine gate_callee (f := 7) rfl ?_); refine gl_ 23 Try.func7 #[.slice Ao17 t562.length co17, .slice Ao18 t565.length co18] ?_; (with_reducible refine (laws_mdTexts.calls k _ _ t562 _ _ t565 true _ ?side1 ?side2 ?side3 ?side4 A13.out).mono ?_); (case side1 => exact cr_ HO564); (case side2 => exact (Kd.R_reads' HO564.out).2.1); (case side3 => exact cr_ HO567); (case side4 => exact (Kd.R_reads' HO567.out).2.1); rintro e w' ⟨rfl, ⟨nd, rfl⟩⟩; refine ⟨_, rfl, ?_⟩))
  go_meet
  case rel => exact ⟨_, (((t562.length : Int) == 0)), rf_, H', ⟨by first | omega | exact Nat.le_refl _⟩, ⟨by (with_reducible repeat (first | apply Kd.R_alloc | apply Kd.R_drewN | apply Kd.R_drew)); exact Kd.R_mono HO564.out (fun _ hk => trivial)⟩, ⟨kR_ HO556⟩, ⟨kR_ HO559⟩, ⟨by (with_reducible repeat (first | refine blk_drewN ?_ _ | refine blk_drew ?_ | refine blk_alloc ?_ _)); exact BK561.out⟩, ⟨bl_⟩⟩
 case rest =>
  clear HC5
  (try clear c1);(try clear c2);(try clear c2b0);(try clear c2b1);(try clear p2);(try clear c3);(try clear c5);(try clear c6);(try clear c7);(try clear c8);(try clear c14);(try clear hcz15_0);(try clear hcz15_1);(try clear hcz19_0);(try clear hcz19_1);(try clear hcz9_0);(try clear hcz9_1);(try clear hfz15_0);(try clear hfz15_1);(try clear hfz19_0);(try clear hfz19_1);(try clear hfz9_0);(try clear hfz9_1)
  obtain ⟨kq, x29_4, rfl, HA, HJ4, HO_5, HO_562000, HO_562001, BK561, HB⟩ := hcut
  cases kq with
  | zero => exact absurd HA.out (by simp [laws_FnPartsOf.j0])
  | succ kj4 =>
   have H := HA.out
   clear HA
   simp only [laws_FnPartsOf.j0] at H
   replace H := itb_ H; rcases H with ⟨rfl, H⟩ | ⟨rfl, H⟩
   · replace H := Option.bind_eq_some_iff.mp H
     obtain ⟨t569, A240, H⟩ := H; try dsimp only at H
     have A24 := Aside0.mk A240
     clear A240
     replace H := Option.bind_eq_some_iff.mp H
     obtain ⟨t572, A250, H⟩ := H; try dsimp only at H
     have A25 := Aside0.mk A250
     clear A250
     obtain rfl := Option.some.inj H
     have hcz26_0 := bc0_ BK561
     have hcz26_1 := bc1_ BK561
     have hfz26_0 := blk_frozen BK561.out 0
     have hfz26_1 := blk_frozen BK561.out 1
     go_wp2_with (first | ((with_reducible refine gate_callee (f := 8) rfl ?_); refine gl_ 33 Try.func8 #[.agg #[.slice Ao8 t554.length co8, .slice Ao10 t557.length co10], .string t560] ?_; (with_reducible refine (spec_PartsOf.calls kj4 _ _ t554 _ _ t557 t560 t569 _ ?side1 ?side2 ?side3 ?side4 A24.out).mono ?_); (case side1 => exact cr_ HO_562000); (case side2 => exact (Kd.R_reads' HO_562000.out).2.1); (case side3 => exact cr_ HO_562001); (case side4 => exact (Kd.R_reads' HO_562001.out).2.1); rintro e w27 ⟨v570, rfl, ho0, hb⟩; refine ⟨_, rfl, ?_⟩; replace HO_562000 := Aside0.mk (Kd.R_below (kR_ HO_562000) hb); replace HO_562001 := Aside0.mk (Kd.R_below (kR_ HO_562001) hb); have HO571 := Aside0.mk (Kd.R_lower (Kd.R_new' ho0 (Kd.R_lt (kR_ HO_5))) (below_size (bl_))); replace HO_5 := Aside0.mk (Kd.R_elder' (kR_ HO_5) (Kd.R_base ho0) hb); replace BK561 := Aside0.mk (blk_below (bk_ BK561) hb); replace HB := Aside0.mk (below_step (bl_) hb); (try clear hb); (try clear hb2); (try clear hk); (try clear hi); (try clear ho0); obtain ⟨Ao28, co28, eo28⟩ := Kd.R_slice HO_5.out; subst eo28; obtain ⟨Ao29, co29, eo29⟩ := Kd.R_slice HO571.out; subst eo29) | ((with_reducible refine gate_callee (f := 7) rfl ?_); refine gl_ 34 Try.func7 #[.slice Ao28 t562.length co28, .slice Ao29 t569.length co29] ?_; (with_reducible refine (laws_mdTexts.calls kj4 _ _ t562 _ _ t569 t572 _ ?side1 ?side2 ?side3 ?side4 A25.out).mono ?_); (case side1 => exact cr_ HO_5); (case side2 => exact (Kd.R_reads' HO_5.out).2.1); (case side3 => exact cr_ HO571); (case side4 => exact (Kd.R_reads' HO571.out).2.1); rintro e w' ⟨rfl, ⟨nd, rfl⟩⟩; refine ⟨_, rfl, ?_⟩))
     go_ret
     exact ⟨rfe_, bl_⟩
   have H' := Aside0.mk H; clear H
   go_wp2
   go_loopg [6, 7] kj4 (fun kq v6 v7 w' => ∃ (x6_2 : ByteArray) (x7_2 : Int), v6 = .string x6_2 ∧ v7 = .int .i64 x7_2 ∧ Aside0 (laws_FnPartsOf.l0 kq t560 t562 x6_2 x7_2 t554 t557 = some r) ∧ Aside0 (kq ≤ kj4) ∧ Aside0 (Kd.R Kd.string 9 w' w.heap.size (fun _ => True) v563 t562) ∧ Aside0 (Kd.R k68 68 w' w.heap.size (fun _ => True) (.slice Ao8 t554.length co8) t554) ∧ Aside0 (Kd.R k73 73 w' w.heap.size (fun _ => True) (.slice Ao10 t557.length co10) t557) ∧ Aside0 (w'.heap[gb561]? = some (.cells #[(.slice Ao8 t554.length co8), (.slice Ao10 t557.length co10)] 26 (0, 0))) ∧ Aside0 (Below w.heap.size w w'))
   case atStart => exact ⟨((⟨#[]⟩ : ByteArray)), (0), rf_, rf_, H', ⟨Nat.le_refl _⟩, ⟨kR_ HO_5⟩, ⟨kR_ HO_562000⟩, ⟨kR_ HO_562001⟩, ⟨by (with_reducible repeat (first | refine blk_drewN ?_ _ | refine blk_drew ?_ | refine blk_alloc ?_ _)); exact BK561.out⟩, ⟨bl_⟩⟩
   case round =>
    clear H'
    (try clear c1);(try clear c2);(try clear c2b0);(try clear c2b1);(try clear p2);(try clear c3);(try clear c5);(try clear c6);(try clear c7);(try clear c8);(try clear c14);(try clear c23);(try clear hcz15_0);(try clear hcz15_1);(try clear hcz19_0);(try clear hcz19_1);(try clear hcz26_0);(try clear hcz26_1);(try clear hcz9_0);(try clear hcz9_1);(try clear hfz15_0);(try clear hfz15_1);(try clear hfz19_0);(try clear hfz19_1);(try clear hfz26_0);(try clear hfz26_1);(try clear hfz9_0);(try clear hfz9_1);(try clear p2)
    obtain ⟨x6_2, x7_2, rfl, rfl, HA, HK2, HO_5, HO_562000, HO_562001, BK561, HB⟩ := hrel
    cases gk with
    | zero => exact absurd HA.out (by simp [laws_FnPartsOf.l0])
    | succ k2 =>
     have H := HA.out
     clear HA
     simp only [laws_FnPartsOf.l0] at H
     replace H := iudd_ H; rcases H with ⟨c30b0, H⟩ | ⟨c30b0, H⟩
     · replace H := iucc_ H; rcases H with ⟨c45, H⟩ | ⟨c45, H⟩
       · have c45b0 : (x6_2.toList == t560.toList) = false := beq_eq_false_iff_ne.mpr c45
         have c45b1 : (x6_2.toList != t560.toList) = true := bne_iff_ne.mpr c45
         obtain rfl := Option.some.inj H
         obtain ⟨Ao49, co49, eo49⟩ := Kd.R_slice HO_5.out
         subst eo49
         go_wp2
         go_ret
         exact ⟨rfe_, bl_⟩
       have c45b0 : (x6_2.toList == t560.toList) = true := beq_iff_eq.mpr c45
       have c45b1 : (x6_2.toList != t560.toList) = false := bne_eq_false_iff_eq.mpr c45
       clear c45
       replace H := iucc_ H; rcases H with ⟨c46, H⟩ | ⟨c46, H⟩
       · have c46b0 : ((t562.length : Int) == 2) = false := beq_eq_false_iff_ne.mpr c46
         have c46b1 : ((t562.length : Int) != 2) = true := bne_iff_ne.mpr c46
         obtain rfl := Option.some.inj H
         obtain ⟨Ao48, co48, eo48⟩ := Kd.R_slice HO_5.out
         subst eo48
         go_wp2
         go_ret
         exact ⟨rfe_, bl_⟩
       have c46b0 : ((t562.length : Int) == 2) = true := beq_iff_eq.mpr c46
       have c46b1 : ((t562.length : Int) != 2) = false := bne_eq_false_iff_eq.mpr c46
       clear c46
       obtain rfl := Option.some.inj H
       obtain ⟨Ao47, co47, eo47⟩ := Kd.R_slice HO_5.out
       subst eo47
       go_wp2
       go_ret
       exact ⟨rfe_, bl_⟩
     replace H := ind_ H; obtain ⟨c31b0, H⟩ := H
     replace H := Option.bind_eq_some_iff.mp H
     obtain ⟨t574, A320, H⟩ := H; try dsimp only at H
     have A32 := Aside0.mk A320
     clear A320
     replace H := iub_ H; rcases H with ⟨rfl, H⟩ | ⟨rfl, H⟩
     · obtain rfl := Option.some.inj H
       obtain ⟨Ao42, co42, eo42⟩ := Kd.R_slice HO_5.out
       subst eo42
       try go_wp2
       replace HO_5 := Aside0.mk (Kd.R_drew HO_5.out)
       replace HO_562000 := Aside0.mk (Kd.R_drew HO_562000.out)
       replace HO_562001 := Aside0.mk (Kd.R_drew HO_562001.out)
       replace BK561 := Aside0.mk (blk_drew BK561.out)
       replace HB := Aside0.mk (below_drew1 HB.out)
       have p573 : 0 ≤ (x7_2 : Int) := od_
       have q573 : x7_2 < (t562.length : Int) := od_
       obtain ⟨ad573, e573, hx573_0⟩ := Kd.at_string (Kd.R_reads' HO_5.out).2.2 x7_2 p573 q573
       cases e573
       replace p573 := eq_true p573; replace q573 := eq_true q573
       refine start_ (n := 15) (S := fun w' => w'.cell? ⟨gb561, 0, none⟩ = some (.slice Ao8 t554.length co8) ∧ w'.cell? ⟨gb561, 1, none⟩ = some (.slice Ao10 t557.length co10) ∧ w'.cell? (ad573.add (x7_2).toNat) = some (.string (rdOf ByteArray.empty t562 x7_2))) (ds := []) (bm 15 0) (by kernel_rfl) rfl rfl ⟨(blk_cell BK561.out 0).trans rfl, (blk_cell BK561.out 1).trans rfl, hx573_0⟩ (fun hHeld => ?_); refine with_tabW laws_FnPartsOf.tab11 laws_FnPartsOf.bits11 (fun HT_ HW_ => ?_)
       generalize wr.drew = w43 at HO_5 HO_562000 HO_562001 BK561 HB hx573_0 hHeld ⊢
       refine sp_ 1 (some 42) (bm 15 2) HT_ (h := ?_)
       refine sp_ 2 (some 43) (bm 15 6) HT_ (h := ?_)
       refine sp_ 3 (some 44) (bm 15 14) HT_ (h := ?_)
       refine sr_ 0 (some 41) (bm 15 15) HT_ HW_ hHeld (h := ?_)
       refine sr_ 4 (some 45) (bm 15 31) HT_ HW_ hHeld (h := ?_)
       refine sn_ 5 (some 46) (bm 15 63) HT_ (fun K hK => ?_)
       refine goes_ Try.func9 (by kernel_rfl) rfl #[.agg #[.slice Ao8 t554.length co8, .slice Ao10 t557.length co10], .string (rdOf ByteArray.empty t562 x7_2)] (by rfl) rfl rfl (by (try simp only [List.map_toArray, List.map_cons, List.map_nil]); first | done | rfl | (simp only [List.length_drop, List.length_take]; rfl)) ?_
       with_reducible refine (impl_BookKnows.calls k2 _ _ t554 _ _ t557 (rdOf ByteArray.empty t562 x7_2) false _ ?side1 ?side2 ?side3 ?side4 ?side5 A32.out).mono ?_
       (case side1 => exact cr_ HO_562000)
       (case side2 => exact (Kd.R_reads' HO_562000.out).2.1)
       (case side3 => exact cr_ HO_562001)
       (case side4 => exact (Kd.R_reads' HO_562001.out).2.1)
       (case side5 => exact tab_below HTb.out (bl_))
       rintro e w44 ⟨rfl, hb⟩
       have HS2_ := (hb.cell (World.block_lt_of_cell? _ _ (hHeld.2.2))).trans (hHeld.2.2)
       refine ⟨_, rfl, ?_⟩
       replace HO_5 := Aside0.mk (Kd.R_below (kR_ HO_5) hb)
       replace HO_562000 := Aside0.mk (Kd.R_below (kR_ HO_562000) hb)
       replace HO_562001 := Aside0.mk (Kd.R_below (kR_ HO_562001) hb)
       replace BK561 := Aside0.mk (blk_below (bk_ BK561) hb)
       replace HB := Aside0.mk (below_step (bl_) hb)
       (try clear hb)
       (try clear hb2)
       (try clear hk)
       (try clear hi)
       refine hK.out _ _ ⟨(blk_cell BK561.out 0).trans rfl, (blk_cell BK561.out 1).trans rfl, HS2_⟩ (fun hHeld => ?_)
       clear hK K
       refine nm_ ?_
       refine sp_ 6 (some 47) (bm 15 127) HT_ (h := ?_)
       refine sp_ 7 (some 48) (bm 15 255) HT_ (h := ?_)
       refine so_ 8 (some 49) (bm 15 511) HT_ (h := ?_)
       refine so_ 9 (some 50) (bm 15 1023) HT_ (h := ?_)
       refine so_ 10 (some 51) (bm 15 2047) HT_ (h := ?_)
       refine so_ 11 (some 52) (bm 15 4095) HT_ (h := ?_)
       refine so_ 12 (some 53) (bm 15 8191) HT_ (h := ?_)
       refine so_ 13 (some 54) (bm 15 16383) HT_ (h := ?_)
       refine sp_ 14 (some 55) (bm 15 32767) HT_ (h := ?_)
       refine done_ (done_of HT_.out (by kernel_rfl)) ?_
       try go_wp2
       go_ret
       exact ⟨rfe_, bl_⟩
     replace H := itcc_ H; rcases H with ⟨c34, H⟩ | ⟨c34, H⟩
     · have c34b0 : decide (((rdOf ByteArray.empty t562 x7_2).size : Int) < 3) = true := decide_eq_true c34
       have c34b1 : decide ((rdOf ByteArray.empty t562 x7_2).size < 3) = true := decide_eq_true (by omega)
       clear c34
       obtain rfl := Option.some.inj H
       obtain ⟨Ao35, co35, eo35⟩ := Kd.R_slice HO_5.out
       subst eo35
       try go_wp2
       replace HO_5 := Aside0.mk (Kd.R_drew HO_5.out)
       replace HO_562000 := Aside0.mk (Kd.R_drew HO_562000.out)
       replace HO_562001 := Aside0.mk (Kd.R_drew HO_562001.out)
       replace BK561 := Aside0.mk (blk_drew BK561.out)
       replace HB := Aside0.mk (below_drew1 HB.out)
       have p573 : 0 ≤ (x7_2 : Int) := od_
       have q573 : x7_2 < (t562.length : Int) := od_
       obtain ⟨ad573, e573, hx573_0⟩ := Kd.at_string (Kd.R_reads' HO_5.out).2.2 x7_2 p573 q573
       cases e573
       replace p573 := eq_true p573; replace q573 := eq_true q573
       have p575 : 0 ≤ (x7_2 : Int) := od_
       have q575 : x7_2 < (t562.length : Int) := od_
       obtain ⟨ad575, e575, hx575_0⟩ := Kd.at_string (Kd.R_reads' HO_5.out).2.2 x7_2 p575 q575
       obtain rfl : ad573 = ad575 := (by injection e575)
       replace p575 := eq_true p575; replace q575 := eq_true q575
       refine start_ (n := 15) (S := fun w' => w'.cell? ⟨gb561, 0, none⟩ = some (.slice Ao8 t554.length co8) ∧ w'.cell? ⟨gb561, 1, none⟩ = some (.slice Ao10 t557.length co10) ∧ w'.cell? (ad573.add (x7_2).toNat) = some (.string (rdOf ByteArray.empty t562 x7_2)) ∧ w'.cell? (ad573.add (x7_2).toNat) = some (.string (rdOf ByteArray.empty t562 x7_2))) (ds := []) (bm 15 0) (by kernel_rfl) rfl rfl ⟨(blk_cell BK561.out 0).trans rfl, (blk_cell BK561.out 1).trans rfl, hx573_0, hx575_0⟩ (fun hHeld => ?_); refine with_tabW laws_FnPartsOf.tab11 laws_FnPartsOf.bits11 (fun HT_ HW_ => ?_)
       generalize wr.drew = w36 at HO_5 HO_562000 HO_562001 BK561 HB hx573_0 hx575_0 hHeld ⊢
       refine sp_ 1 (some 42) (bm 15 2) HT_ (h := ?_)
       refine sp_ 2 (some 43) (bm 15 6) HT_ (h := ?_)
       refine sp_ 3 (some 44) (bm 15 14) HT_ (h := ?_)
       refine sr_ 0 (some 41) (bm 15 15) HT_ HW_ hHeld (h := ?_)
       refine sr_ 4 (some 45) (bm 15 31) HT_ HW_ hHeld (h := ?_)
       refine sn_ 5 (some 46) (bm 15 63) HT_ (fun K hK => ?_)
       refine goes_ Try.func9 (by kernel_rfl) rfl #[.agg #[.slice Ao8 t554.length co8, .slice Ao10 t557.length co10], .string (rdOf ByteArray.empty t562 x7_2)] (by rfl) rfl rfl (by (try simp only [List.map_toArray, List.map_cons, List.map_nil]); first | done | rfl | (simp only [List.length_drop, List.length_take]; rfl)) ?_
       with_reducible refine (impl_BookKnows.calls k2 _ _ t554 _ _ t557 (rdOf ByteArray.empty t562 x7_2) true _ ?side1 ?side2 ?side3 ?side4 ?side5 A32.out).mono ?_
       (case side1 => exact cr_ HO_562000)
       (case side2 => exact (Kd.R_reads' HO_562000.out).2.1)
       (case side3 => exact cr_ HO_562001)
       (case side4 => exact (Kd.R_reads' HO_562001.out).2.1)
       (case side5 => exact tab_below HTb.out (bl_))
       rintro e w37 ⟨rfl, hb⟩
       have HS2_ := (hb.cell (World.block_lt_of_cell? _ _ (hHeld.2.2.1))).trans (hHeld.2.2.1)
       have HS3_ := (hb.cell (World.block_lt_of_cell? _ _ (hHeld.2.2.2))).trans (hHeld.2.2.2)
       refine ⟨_, rfl, ?_⟩
       replace HO_5 := Aside0.mk (Kd.R_below (kR_ HO_5) hb)
       replace HO_562000 := Aside0.mk (Kd.R_below (kR_ HO_562000) hb)
       replace HO_562001 := Aside0.mk (Kd.R_below (kR_ HO_562001) hb)
       replace BK561 := Aside0.mk (blk_below (bk_ BK561) hb)
       replace HB := Aside0.mk (below_step (bl_) hb)
       (try clear hb)
       (try clear hb2)
       (try clear hk)
       (try clear hi)
       refine hK.out _ _ ⟨(blk_cell BK561.out 0).trans rfl, (blk_cell BK561.out 1).trans rfl, HS2_, HS3_⟩ (fun hHeld => ?_)
       clear hK K
       refine nm_ ?_
       refine sp_ 6 (some 47) (bm 15 127) HT_ (h := ?_)
       refine sp_ 7 (some 48) (bm 15 255) HT_ (h := ?_)
       refine sp_ 8 (some 49) (bm 15 511) HT_ (h := ?_)
       refine sp_ 9 (some 50) (bm 15 1023) HT_ (h := ?_)
       refine sp_ 10 (some 51) (bm 15 2047) HT_ (h := ?_)
       refine sr_ 11 (some 52) (bm 15 4095) HT_ HW_ hHeld (h := ?_)
       refine sp_ 12 (some 53) (bm 15 8191) HT_ (h := ?_)
       refine sp_ 13 (some 54) (bm 15 16383) HT_ (h := ?_)
       refine sp_ 14 (some 55) (bm 15 32767) HT_ (h := ?_)
       refine done_ (done_of HT_.out (by kernel_rfl)) ?_
       try go_wp2
       go_ret
       exact ⟨rfe_, bl_⟩
     have c34b0 : decide (((rdOf ByteArray.empty t562 x7_2).size : Int) < 3) = false := decide_eq_false c34
     have c34b1 : decide ((rdOf ByteArray.empty t562 x7_2).size < 3) = false := decide_eq_false (by omega)
     clear c34
     replace H := inc_ H; obtain ⟨c38, H⟩ := H
     have c38b0 := eq_true c38
     have c38b1 : decide (x6_2.size + (rdOf ByteArray.empty t562 x7_2).size ≤ 9223372036854775807) = true := decide_eq_true c38
     try have c38b2 : (9223372036854775807 < x6_2.size + (rdOf ByteArray.empty t562 x7_2).size) = False := eq_false (Nat.not_lt.2 c38)
     have H' := Aside0.mk H; clear H
     obtain ⟨Ao39, co39, eo39⟩ := Kd.R_slice HO_5.out
     subst eo39
     try go_wp2
     replace HO_5 := Aside0.mk (Kd.R_drew HO_5.out)
     replace HO_562000 := Aside0.mk (Kd.R_drew HO_562000.out)
     replace HO_562001 := Aside0.mk (Kd.R_drew HO_562001.out)
     replace BK561 := Aside0.mk (blk_drew BK561.out)
     replace HB := Aside0.mk (below_drew1 HB.out)
     have p573 : 0 ≤ (x7_2 : Int) := od_
     have q573 : x7_2 < (t562.length : Int) := od_
     obtain ⟨ad573, e573, hx573_0⟩ := Kd.at_string (Kd.R_reads' HO_5.out).2.2 x7_2 p573 q573
     cases e573
     replace p573 := eq_true p573; replace q573 := eq_true q573
     have p575 : 0 ≤ (x7_2 : Int) := od_
     have q575 : x7_2 < (t562.length : Int) := od_
     obtain ⟨ad575, e575, hx575_0⟩ := Kd.at_string (Kd.R_reads' HO_5.out).2.2 x7_2 p575 q575
     obtain rfl : ad573 = ad575 := (by injection e575)
     replace p575 := eq_true p575; replace q575 := eq_true q575
     refine start_ (n := 15) (S := fun w' => w'.cell? ⟨gb561, 0, none⟩ = some (.slice Ao8 t554.length co8) ∧ w'.cell? ⟨gb561, 1, none⟩ = some (.slice Ao10 t557.length co10) ∧ w'.cell? (ad573.add (x7_2).toNat) = some (.string (rdOf ByteArray.empty t562 x7_2)) ∧ w'.cell? (ad573.add (x7_2).toNat) = some (.string (rdOf ByteArray.empty t562 x7_2))) (ds := []) (bm 15 0) (by kernel_rfl) rfl rfl ⟨(blk_cell BK561.out 0).trans rfl, (blk_cell BK561.out 1).trans rfl, hx573_0, hx575_0⟩ (fun hHeld => ?_); refine with_tabW laws_FnPartsOf.tab11 laws_FnPartsOf.bits11 (fun HT_ HW_ => ?_)
     generalize wr.drew = w40 at HO_5 HO_562000 HO_562001 BK561 HB hx573_0 hx575_0 hHeld ⊢
     refine sp_ 1 (some 42) (bm 15 2) HT_ (h := ?_)
     refine sp_ 2 (some 43) (bm 15 6) HT_ (h := ?_)
     refine sp_ 3 (some 44) (bm 15 14) HT_ (h := ?_)
     refine sr_ 0 (some 41) (bm 15 15) HT_ HW_ hHeld (h := ?_)
     refine sr_ 4 (some 45) (bm 15 31) HT_ HW_ hHeld (h := ?_)
     refine sn_ 5 (some 46) (bm 15 63) HT_ (fun K hK => ?_)
     refine goes_ Try.func9 (by kernel_rfl) rfl #[.agg #[.slice Ao8 t554.length co8, .slice Ao10 t557.length co10], .string (rdOf ByteArray.empty t562 x7_2)] (by rfl) rfl rfl (by (try simp only [List.map_toArray, List.map_cons, List.map_nil]); first | done | rfl | (simp only [List.length_drop, List.length_take]; rfl)) ?_
     with_reducible refine (impl_BookKnows.calls k2 _ _ t554 _ _ t557 (rdOf ByteArray.empty t562 x7_2) true _ ?side1 ?side2 ?side3 ?side4 ?side5 A32.out).mono ?_
     (case side1 => exact cr_ HO_562000)
     (case side2 => exact (Kd.R_reads' HO_562000.out).2.1)
     (case side3 => exact cr_ HO_562001)
     (case side4 => exact (Kd.R_reads' HO_562001.out).2.1)
     (case side5 => exact tab_below HTb.out (bl_))
     rintro e w41 ⟨rfl, hb⟩
     have HS2_ := (hb.cell (World.block_lt_of_cell? _ _ (hHeld.2.2.1))).trans (hHeld.2.2.1)
     have HS3_ := (hb.cell (World.block_lt_of_cell? _ _ (hHeld.2.2.2))).trans (hHeld.2.2.2)
     refine ⟨_, rfl, ?_⟩
     replace HO_5 := Aside0.mk (Kd.R_below (kR_ HO_5) hb)
     replace HO_562000 := Aside0.mk (Kd.R_below (kR_ HO_562000) hb)
     replace HO_562001 := Aside0.mk (Kd.R_below (kR_ HO_562001) hb)
     replace BK561 := Aside0.mk (blk_below (bk_ BK561) hb)
     replace HB := Aside0.mk (below_step (bl_) hb)
     (try clear hb)
     (try clear hb2)
     (try clear hk)
     (try clear hi)
     refine hK.out _ _ ⟨(blk_cell BK561.out 0).trans rfl, (blk_cell BK561.out 1).trans rfl, HS2_, HS3_⟩ (fun hHeld => ?_)
     clear hK K
     refine nm_ ?_
     refine sp_ 6 (some 47) (bm 15 127) HT_ (h := ?_)
     refine sp_ 7 (some 48) (bm 15 255) HT_ (h := ?_)
     refine sp_ 8 (some 49) (bm 15 511) HT_ (h := ?_)
     refine sp_ 9 (some 50) (bm 15 1023) HT_ (h := ?_)
     refine sp_ 10 (some 51) (bm 15 2047) HT_ (h := ?_)
     refine sr_ 11 (some 52) (bm 15 4095) HT_ HW_ hHeld (h := ?_)
     refine sp_ 12 (some 53) (bm 15 8191) HT_ (h := ?_)
     refine sp_ 13 (some 54) (bm 15 16383) HT_ (h := ?_)
     refine sp_ 14 (some 55) (bm 15 32767) HT_ (h := ?_)
     refine done_ (done_of HT_.out (by kernel_rfl)) ?_
     have p576 : 0 ≤ (x7_2 : Int) := od_
     have q576 : x7_2 < (t562.length : Int) := od_
     obtain ⟨ad576, e576, hx576_0⟩ := Kd.at_string (Kd.R_reads' HO_5.out).2.2 x7_2 p576 q576
     obtain rfl : ad573 = ad576 := (by injection e576)
     replace p576 := eq_true p576; replace q576 := eq_true q576
     try go_wp2
     go_roundg k2
     case measure => have := HJ4.out; have := HK2.out; omega
     case rel => exact ⟨(x6_2 ++ (rdOf ByteArray.empty t562 x7_2)), (wrap64 (x7_2 + 1)), rf_, rf_, H', ⟨by have := HJ4.out; have := HK2.out; omega⟩, ⟨kR_ HO_5⟩, ⟨kR_ HO_562000⟩, ⟨kR_ HO_562001⟩, ⟨by (with_reducible repeat (first | refine blk_drewN ?_ _ | refine blk_drew ?_ | refine blk_alloc ?_ _)); exact BK561.out⟩, ⟨bl_⟩⟩

end Go.Proofs.Ytbopiacjioedeaa.P
