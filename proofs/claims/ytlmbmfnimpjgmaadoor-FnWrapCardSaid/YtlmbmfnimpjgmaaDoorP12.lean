-- Written by a program of this session (wip/gen/gen.py) out of Lean's print of the loaded program; Lean checks it.
import Derived.Test.YtlmbmfnimpjgmaaDoorP0
import Derived.Test.YtlmbmfnimpjgmaaDoorSq2
import Derived.Test.YtlmbmfnimpjgmaaDoorP5
import Derived.Test.YtlmbmfnimpjgmaaDoorP8
import Derived.Test.YtlmbmfnimpjgmaaDoorP10
import Derived.Test.YtlmbmfnimpjgmaaDoorP11
import Derived.Test.YtlmbmfnimpjgmaaDoorTab
namespace Go.Proofs.YtlmbmfnimpjgmaaDoor.P
open Go.RowKit Go.Proofs.YtlmbmfnimpjgmaaDoorW.PrintWords Go.Proofs.YtlmbmfnimpjgmaaDoorW.PrintLast Go.Proofs.YtlmbmfnimpjgmaaDoorW.PrintMore
attribute [local go_sem] max2_int min2_int max_two min_two max_three min_three max_four min_four IntKind.wrap_u8 IntKind.wrap_u32 w64_256 w64_u32
set_option maxHeartbeats 8000000
set_option maxRecDepth 100000
set_option linter.unusedVariables false
set_option linter.unusedSimpArgs false

/-! ### laws_FnWrap: function 4 -/
mutual
def laws_FnWrap.j0 : Nat → List ByteArray → Int → List ByteArray → Bool → List ByteArray → Bool → Bool → Option (Bool)
 | 0, _, _, _, _, _, _, _ => none
 | k + 1, x4, x5, x6, x7, x8, x9, x48 => if x48 = true then (if (x7 == x9) = true then ((laws_mdTexts.f k x6 x8).bind fun t465 => (some t465)) else (some false)) else (laws_FnWrap.l0 k x4 x5 x6 0)
def laws_FnWrap.l0 : Nat → List ByteArray → Int → List ByteArray → Int → Option (Bool)
 | 0, _, _, _, _ => none
 | k + 1, x4, x5, x6, x10 => if x10 < (x6.length : Int) then (if 0 ≤ x10 then (if ((rdOf ByteArray.empty x6 x10).size : Int) > x5 then (some false) else (if ((rdOf ByteArray.empty x6 x10).size : Int) = 0 then (some false) else (laws_FnWrap.l0 k x4 x5 x6 (wrap64 (x10 + 1))))) else (none)) else ((impl_Wrap.f k ([] : List (S42)) x4 x5).bind fun bt468 => ((impl_Unwrap.f k x6).bind fun t472 => ((laws_mdTexts.f k t472 x4).bind fun t475 => (if t475 = true then ((impl_Unwrap.f k bt468.1).bind fun t476 => ((laws_mdTexts.f k t476 x4).bind fun t479 => (if t479 = true then (some (decide ((x6.length : Int) ≤ (wrap64 ((x4.length : Int) + 1))))) else (some false)))) else (some false)))))
end
def laws_FnWrap.f (k : Nat) (l0 : List Int) : Option (Bool) := if (l0.length : Int) > 1048576 then (some true) else ((spec_DrawWrap.f k l0).bind fun bt449 => ((impl_Wrap.f k bt449.1 bt449.2.1 bt449.2.2).bind fun bt456 => ((spec_Wrap.f k bt449.1 bt449.2.1 bt449.2.2).bind fun bt460 => (if (bt456.2 != bt460.2) = true then (laws_FnWrap.j0 k bt449.2.1 bt449.2.2 bt456.1 bt456.2 bt460.1 bt460.2 true) else ((laws_mdTexts.f k bt456.1 bt460.1).bind fun t464 => (if t464 = true then (laws_FnWrap.j0 k bt449.2.1 bt449.2.2 bt456.1 bt456.2 bt460.1 bt460.2 (!bt456.2)) else (laws_FnWrap.j0 k bt449.2.1 bt449.2.2 bt456.1 bt456.2 bt460.1 bt460.2 true)))))))
theorem laws_FnWrap.mono_l : ∀ k, (∀ y0 y1 y2 y3 y4 y5 y6, LeO (laws_FnWrap.j0 k y0 y1 y2 y3 y4 y5 y6) (laws_FnWrap.j0 (k + 1) y0 y1 y2 y3 y4 y5 y6)) ∧ (∀ y0 y1 y2 y3, LeO (laws_FnWrap.l0 k y0 y1 y2 y3) (laws_FnWrap.l0 (k + 1) y0 y1 y2 y3))
 | 0 => ⟨fun _ _ _ _ _ _ _ r h => by simp [laws_FnWrap.j0] at h, fun _ _ _ _ r h => by simp [laws_FnWrap.l0] at h⟩
 | k + 1 => by
  obtain ⟨ih0, ih1⟩ := laws_FnWrap.mono_l k
  refine ⟨?_, ?_⟩
  · intro y0 y1 y2 y3 y4 y5 y6
    unfold laws_FnWrap.j0
    have m0 := @impl_Unwrap.mono
    have m1 := @impl_Wrap.mono
    have m2 := @laws_mdTexts.mono
    have m3 := @spec_DrawWrap.mono
    have m4 := @spec_Wrap.mono
    exact mn_
  · intro y0 y1 y2 y3
    unfold laws_FnWrap.l0
    have m0 := @impl_Unwrap.mono
    have m1 := @impl_Wrap.mono
    have m2 := @laws_mdTexts.mono
    have m3 := @spec_DrawWrap.mono
    have m4 := @spec_Wrap.mono
    exact mn_
theorem laws_FnWrap.mono : ∀ a0 k, LeO (laws_FnWrap.f k a0) (laws_FnWrap.f (k + 1) a0) := by
 intro a0 k
 obtain ⟨ih0, ih1⟩ := laws_FnWrap.mono_l k
 unfold laws_FnWrap.f
 have m0 := @impl_Unwrap.mono
 have m1 := @impl_Wrap.mono
 have m2 := @laws_mdTexts.mono
 have m3 := @spec_DrawWrap.mono
 have m4 := @spec_Wrap.mono
 exact mn_
theorem laws_FnWrap.calls (k : Nat) (A0 : Option Addr) (c0 : Nat) (l0 : List Int) (r : Bool) (w : World) (hr0 : Kd.C (Kd.int .u8) w A0 l0.length l0) (hc0 : l0.length ≤ c0) (hT : Tab w) (h : laws_FnWrap.f k l0 = some r) :
 Calls Tryd.prog 4 #[.slice A0 l0.length c0] w fun e w' => e = .returned (.bool r) ∧ Below w.heap.size w w' := by
 have HR0 := Aside0.mk hr0
 have HC0 := Aside0.mk hc0
 clear hr0 hc0
 have HTb := Aside0.mk hT
 clear hT
 have HB := Aside0.mk (Below.refl w.heap.size w)
 unfold laws_FnWrap.f at h; have H := h; clear h
 replace H := itcc_ H; rcases H with ⟨c2, H⟩ | ⟨c2, H⟩
 · have c2b0 : decide (1048576 < (l0.length : Int)) = true := decide_eq_true c2
   have c2b1 : decide (1048576 < l0.length) = true := decide_eq_true (by omega)
   clear c2
   obtain rfl := Option.some.inj H
   go_enter Tryd.func4, Tryd.ntmps4
   go_wp2
   go_ret
   exact ⟨rfe_, bl_⟩
 have c2b0 : decide (1048576 < (l0.length : Int)) = false := decide_eq_false c2
 have c2b1 : decide (1048576 < l0.length) = false := decide_eq_false (by omega)
 clear c2
 replace H := Option.bind_eq_some_iff.mp H
 obtain ⟨⟨t449, t450, t451⟩, A30, H⟩ := H; try dsimp -simprocs only at H
 have A3 := Aside0.mk A30
 clear A30
 replace H := Option.bind_eq_some_iff.mp H
 obtain ⟨⟨t456, t457⟩, A40, H⟩ := H; try dsimp -simprocs only at H
 have A4 := Aside0.mk A40
 clear A40
 replace H := Option.bind_eq_some_iff.mp H
 obtain ⟨⟨t460, t461⟩, A50, H⟩ := H; try dsimp -simprocs only at H
 have A5 := Aside0.mk A50
 clear A50
 have HC6 := Aside0.mk H
 clear H
 go_enter Tryd.func4, Tryd.ntmps4
 go_upto_region 6 with (first | ((with_reducible refine gate_callee (f := 11) rfl ?_); refine gl_ 18 Tryd.func11 #[.slice A0 l0.length c0] ?_; (with_reducible refine (spec_DrawWrap.calls k _ _ l0 t449 t450 t451 _ ?side1 ?side2 A3.out).mono ?_); (case side1 => repeat (first | exact HR0.out | (with_reducible refine Kd.C_alloc ?_ _) | (with_reducible refine Kd.C_drewN ?_ _) | (with_reducible refine Kd.C_drew ?_))); (case side2 => exact HC0.out); rintro e w7 ⟨v452, v454, rfl, ho0, ho1, hb⟩; refine ⟨_, rfl, ?_⟩; have HO453 := Aside0.mk (Kd.S_lower ho0 (below_size (bl_))); have HO455 := Aside0.mk (Kd.R_lower ho1 (below_size (bl_))); replace HB := Aside0.mk (below_step (bl_) hb); (try clear hb); (try clear hb2); (try clear hk); (try clear hi); (try clear ho0); (try clear ho1); obtain ⟨Ao8, co8, eo8⟩ := Kd.S_slice HO453.out; subst eo8; obtain ⟨Ao9, co9, eo9⟩ := Kd.R_slice HO455.out; subst eo9) | ((with_reducible refine gate_callee (f := 12) rfl ?_); refine gl_ 26 Tryd.func12 #[.slice Ao8 t449.length co8, .slice Ao9 t450.length co9, .int .i64 t451] ?_; (with_reducible refine (impl_Wrap.calls k _ _ t449 _ _ t450 t451 t456 t457 _ ?side1 ?side2 ?side3 ?side4 A4.out).mono ?_); (case side1 => repeat (first | exact (Kd.S_reads' HO453.out).2.2 | (with_reducible refine Kd.C_alloc ?_ _) | (with_reducible refine Kd.C_drewN ?_ _) | (with_reducible refine Kd.C_drew ?_))); (case side2 => exact (Kd.S_reads' HO453.out).2.1); (case side3 => exact cr_ HO455); (case side4 => exact (Kd.R_reads' HO455.out).2.1); rintro e w10 ⟨v458, rfl, ho0, hb⟩; refine ⟨_, rfl, ?_⟩; replace HO453 := Aside0.mk (Kd.S_below (kS_ HO453) hb); have HO459 := Aside0.mk (Kd.R_lower (Kd.R_new' ho0 (Kd.R_lt (kR_ HO455))) (below_size (bl_))); replace HO455 := Aside0.mk (Kd.R_elder' (kR_ HO455) (Kd.R_base ho0) hb); replace HB := Aside0.mk (below_step (bl_) hb); (try clear hb); (try clear hb2); (try clear hk); (try clear hi); (try clear ho0)) | ((with_reducible refine gate_callee (f := 13) rfl ?_); refine gl_ 33 Tryd.func13 #[.slice Ao8 t449.length co8, .slice Ao9 t450.length co9, .int .i64 t451] ?_; (with_reducible refine (spec_Wrap.calls k _ _ t449 _ _ t450 t451 t460 t461 _ ?side1 ?side2 ?side3 ?side4 A5.out).mono ?_); (case side1 => repeat (first | exact (Kd.S_reads' HO453.out).2.2 | (with_reducible refine Kd.C_alloc ?_ _) | (with_reducible refine Kd.C_drewN ?_ _) | (with_reducible refine Kd.C_drew ?_))); (case side2 => exact (Kd.S_reads' HO453.out).2.1); (case side3 => exact cr_ HO455); (case side4 => exact (Kd.R_reads' HO455.out).2.1); rintro e w11 ⟨v462, rfl, ho0, hb⟩; refine ⟨_, rfl, ?_⟩; replace HO453 := Aside0.mk (Kd.S_below (kS_ HO453) hb); have HO463 := Aside0.mk (Kd.R_lower (Kd.R_new' (Kd.R_new' ho0 (Kd.R_lt (kR_ HO455))) (Kd.R_lt (kR_ HO459))) (below_size (bl_))); replace HO455 := Aside0.mk (Kd.R_elder' (kR_ HO455) (Kd.R_base ho0) hb); replace HO459 := Aside0.mk (Kd.R_elder' (kR_ HO459) (Kd.R_base ho0) hb); replace HB := Aside0.mk (below_step (bl_) hb); (try clear hb); (try clear hb2); (try clear hk); (try clear hi); (try clear ho0)))
 (try simp only [Act.put, List.setIfInBounds_toArray, List.set_cons_zero, List.set_cons_succ])
 go_cut [48] (fun v48 wc => ∃ (kq : Nat) (x48_5 : Bool), v48 = .bool x48_5 ∧ Aside0 (laws_FnWrap.j0 kq t450 t451 t456 t457 t460 t461 x48_5 = some r) ∧ Aside0 (kq ≤ k) ∧ Aside0 (Kd.R Kd.string 9 wc w.heap.size (fun k_ => some k_ ≠ (v458 : Value).ownBlock ∧ some k_ ≠ (v462 : Value).ownBlock) (.slice Ao9 t450.length co9) t450) ∧ Aside0 (Kd.R Kd.string 9 wc w.heap.size (fun k_ => some k_ ≠ ((.slice Ao9 t450.length co9) : Value).ownBlock ∧ some k_ ≠ (v462 : Value).ownBlock) v458 t456) ∧ Aside0 (Kd.R Kd.string 9 wc w.heap.size (fun k_ => some k_ ≠ ((.slice Ao9 t450.length co9) : Value).ownBlock ∧ some k_ ≠ (v458 : Value).ownBlock) v462 t460) ∧ Aside0 (Below w.heap.size w wc))
 case first =>
  have H := HC6.out
  clear HC6
  replace H := itcc_ H; rcases H with ⟨c12, H⟩ | ⟨c12, H⟩
  · have c12b0 : (t457 != t461) = true := c12
    (try (have c12b1 : decide (t457 = t461) = false := by simpa using c12))
    (try (have c12b2 : (t457 == t461) = false := by simpa using c12))
    (try (have c12b3 : ¬ (t457 = t461) := by simpa using c12))
    clear c12
    (first | rw [c12b0] | (simp only [i64_w, i32_w]; rw [c12b0]) | skip)
    have H' := Aside0.mk H; clear H
    go_wp2
    go_meet
    case rel => exact ⟨_, (true), rf_, H', ⟨by first | omega | exact Nat.le_refl _⟩, ⟨by (with_reducible repeat (first | apply Kd.R_alloc | apply Kd.R_drewN | apply Kd.R_drew)); exact Kd.R_mono HO455.out (fun _ hk => ⟨hk.1.2, hk.2⟩)⟩, ⟨by (with_reducible repeat (first | apply Kd.R_alloc | apply Kd.R_drewN | apply Kd.R_drew)); exact Kd.R_mono HO459.out (fun _ hk => ⟨hk.1.2, hk.2⟩)⟩, ⟨by (with_reducible repeat (first | apply Kd.R_alloc | apply Kd.R_drewN | apply Kd.R_drew)); exact Kd.R_mono HO463.out (fun _ hk => ⟨hk.1.2, hk.2⟩)⟩, ⟨bl_⟩⟩
  have c12b0 : (t457 != t461) = false := by simpa using c12
  (try (have c12b1 : decide (t457 = t461) = true := by simpa using c12))
  (try (have c12b2 : (t457 == t461) = true := by simpa using c12))
  clear c12
  (first | rw [c12b0] | (simp only [i64_w, i32_w]; rw [c12b0]) | skip)
  replace H := Option.bind_eq_some_iff.mp H
  obtain ⟨t464, A130, H⟩ := H; try dsimp -simprocs only at H
  have A13 := Aside0.mk A130
  clear A130
  replace H := itb_ H; rcases H with ⟨rfl, H⟩ | ⟨rfl, H⟩
  · have H' := Aside0.mk H
    clear H
    obtain ⟨Ao15, co15, eo15⟩ := Kd.R_slice HO459.out
    subst eo15
    obtain ⟨Ao16, co16, eo16⟩ := Kd.R_slice HO463.out
    subst eo16
    go_wp2_with (first | (go_at_call 14; (with_reducible refine (laws_mdTexts.calls k _ _ t456 _ _ t460 true _ ?side1 ?side2 ?side3 ?side4 A13.out).mono ?_); (case side1 => exact cr_ HO459); (case side2 => exact (Kd.R_reads' HO459.out).2.1); (case side3 => exact cr_ HO463); (case side4 => exact (Kd.R_reads' HO463.out).2.1); rintro e w' ⟨rfl, ⟨nd, rfl⟩⟩))
    go_meet
    case rel => exact ⟨_, (!t457), rf_, H', ⟨by first | omega | exact Nat.le_refl _⟩, ⟨by (with_reducible repeat (first | apply Kd.R_alloc | apply Kd.R_drewN | apply Kd.R_drew)); exact Kd.R_mono HO455.out (fun _ hk => ⟨hk.1.2, hk.2⟩)⟩, ⟨by (with_reducible repeat (first | apply Kd.R_alloc | apply Kd.R_drewN | apply Kd.R_drew)); exact Kd.R_mono HO459.out (fun _ hk => ⟨hk.1.2, hk.2⟩)⟩, ⟨by (with_reducible repeat (first | apply Kd.R_alloc | apply Kd.R_drewN | apply Kd.R_drew)); exact Kd.R_mono HO463.out (fun _ hk => ⟨hk.1.2, hk.2⟩)⟩, ⟨bl_⟩⟩
  have H' := Aside0.mk H; clear H
  obtain ⟨Ao17, co17, eo17⟩ := Kd.R_slice HO459.out
  subst eo17
  obtain ⟨Ao18, co18, eo18⟩ := Kd.R_slice HO463.out
  subst eo18
  go_wp2_with (first | (go_at_call 14; (with_reducible refine (laws_mdTexts.calls k _ _ t456 _ _ t460 false _ ?side1 ?side2 ?side3 ?side4 A13.out).mono ?_); (case side1 => exact cr_ HO459); (case side2 => exact (Kd.R_reads' HO459.out).2.1); (case side3 => exact cr_ HO463); (case side4 => exact (Kd.R_reads' HO463.out).2.1); rintro e w' ⟨rfl, ⟨nd, rfl⟩⟩))
  go_meet
  case rel => exact ⟨_, (true), rf_, H', ⟨by first | omega | exact Nat.le_refl _⟩, ⟨by (with_reducible repeat (first | apply Kd.R_alloc | apply Kd.R_drewN | apply Kd.R_drew)); exact Kd.R_mono HO455.out (fun _ hk => ⟨hk.1.2, hk.2⟩)⟩, ⟨by (with_reducible repeat (first | apply Kd.R_alloc | apply Kd.R_drewN | apply Kd.R_drew)); exact Kd.R_mono HO459.out (fun _ hk => ⟨hk.1.2, hk.2⟩)⟩, ⟨by (with_reducible repeat (first | apply Kd.R_alloc | apply Kd.R_drewN | apply Kd.R_drew)); exact Kd.R_mono HO463.out (fun _ hk => ⟨hk.1.2, hk.2⟩)⟩, ⟨bl_⟩⟩
 case rest =>
  clear HC6
  (try clear c1);(try clear c2);(try clear c2b0);(try clear c2b1);(try clear p2);(try clear c4);(try clear c11);(try clear c12);(try clear c12b0);(try clear c12b1);(try clear c12b2);(try clear c13);(try clear c14)
  obtain ⟨kq, x48_5, rfl, HA, HJ5, HO_4, HO_6, HO_8, HB⟩ := hcut
  cases kq with
  | zero => exact absurd HA.out (by simp [laws_FnWrap.j0])
  | succ kj5 =>
   have H := HA.out
   clear HA
   simp only [laws_FnWrap.j0] at H
   replace H := itb_ H; rcases H with ⟨rfl, H⟩ | ⟨rfl, H⟩
   · replace H := iucc_ H; rcases H with ⟨c20, H⟩ | ⟨c20, H⟩
     · have c20b0 : (t457 == t461) = false := by simpa using c20
       (try (have c20b1 : decide (t457 = t461) = false := by simpa using c20))
       (try (have c20b2 : (t457 == t461) = false := by simpa using c20))
       (try (have c20b3 : ¬ (t457 = t461) := by simpa using c20))
       clear c20
       obtain rfl := Option.some.inj H
       go_wp2
       go_ret
       exact ⟨rfe_, bl_⟩
     have c20b0 : (t457 == t461) = true := c20
     (try (have c20b1 : decide (t457 = t461) = true := by simpa using c20))
     (try (have c20b2 : (t457 == t461) = true := by simpa using c20))
     clear c20
     replace H := Option.bind_eq_some_iff.mp H
     obtain ⟨t465, A210, H⟩ := H; try dsimp -simprocs only at H
     have A21 := Aside0.mk A210
     clear A210
     obtain rfl := Option.some.inj H
     obtain ⟨Ao22, co22, eo22⟩ := Kd.R_slice HO_6.out
     subst eo22
     obtain ⟨Ao23, co23, eo23⟩ := Kd.R_slice HO_8.out
     subst eo23
     go_wp2_with (first | (go_at_call 14; (with_reducible refine (laws_mdTexts.calls kj5 _ _ t456 _ _ t460 t465 _ ?side1 ?side2 ?side3 ?side4 A21.out).mono ?_); (case side1 => exact cr_ HO_6); (case side2 => exact (Kd.R_reads' HO_6.out).2.1); (case side3 => exact cr_ HO_8); (case side4 => exact (Kd.R_reads' HO_8.out).2.1); rintro e w' ⟨rfl, ⟨nd, rfl⟩⟩))
     go_ret
     exact ⟨rfe_, bl_⟩
   have H' := Aside0.mk H; clear H
   go_wp2
   go_loopg [10] kj5 (fun kq v10 w' => ∃ (x10_2 : Int), v10 = .int .i64 x10_2 ∧ Aside0 (laws_FnWrap.l0 kq t450 t451 t456 x10_2 = some r) ∧ Aside0 (kq ≤ kj5) ∧ Aside0 (Kd.R Kd.string 9 w' w.heap.size (fun k_ => some k_ ≠ (v458 : Value).ownBlock) (.slice Ao9 t450.length co9) t450) ∧ Aside0 (Kd.R Kd.string 9 w' w.heap.size (fun k_ => some k_ ≠ ((.slice Ao9 t450.length co9) : Value).ownBlock) v458 t456) ∧ Aside0 (Below w.heap.size w w'))
   case atStart => exact ⟨(0), rf_, H', ⟨Nat.le_refl _⟩, ⟨by (with_reducible repeat (first | apply Kd.R_alloc | apply Kd.R_drewN | apply Kd.R_drew)); exact Kd.R_mono HO_4.out (fun _ hk => hk.1)⟩, ⟨by (with_reducible repeat (first | apply Kd.R_alloc | apply Kd.R_drewN | apply Kd.R_drew)); exact Kd.R_mono HO_6.out (fun _ hk => hk.1)⟩, ⟨bl_⟩⟩
   case round =>
    clear H'
    (try clear c1);(try clear c2);(try clear c2b0);(try clear c2b1);(try clear p2);(try clear c4);(try clear c11);(try clear c12);(try clear c12b0);(try clear c12b1);(try clear c12b2);(try clear c13);(try clear c14);(try clear c19);(try clear c20);(try clear c20b0);(try clear c20b1);(try clear c20b2);(try clear p2)
    obtain ⟨x10_2, rfl, HA, HK2, HO_4, HO_6, HB⟩ := hrel
    cases gk with
    | zero => exact absurd HA.out (by simp [laws_FnWrap.l0])
    | succ k2 =>
     have H := HA.out
     clear HA
     simp only [laws_FnWrap.l0] at H
     replace H := itdd_ H; rcases H with ⟨c24b0, H⟩ | ⟨c24b0, H⟩
     · replace H := ind_ H; obtain ⟨c25b0, H⟩ := H
       replace H := itcc_ H; rcases H with ⟨c26, H⟩ | ⟨c26, H⟩
       · have c26b0 : decide (t451 < ((rdOf ByteArray.empty t456 x10_2).size : Int)) = true := decide_eq_true c26
         clear c26
         obtain rfl := Option.some.inj H
         obtain ⟨Ao27, co27, eo27⟩ := Kd.R_slice HO_6.out
         subst eo27
         have p466 : 0 ≤ (x10_2 : Int) := od_
         have q466 : x10_2 < (t456.length : Int) := od_
         obtain ⟨ad466, e466, hx466_0⟩ := Kd.at_string (Kd.R_reads' HO_6.out).2.2 x10_2 p466 q466
         cases e466
         replace p466 := eq_true p466; replace q466 := eq_true q466
         go_wp2
         go_ret
         exact ⟨rfe_, bl_⟩
       have c26b0 : decide (t451 < ((rdOf ByteArray.empty t456 x10_2).size : Int)) = false := decide_eq_false c26
       clear c26
       replace H := itcc_ H; rcases H with ⟨c28, H⟩ | ⟨c28, H⟩
       · have c28b0 : (((rdOf ByteArray.empty t456 x10_2).size : Int) == 0) = true := beq_iff_eq.mpr c28
         have c28b1 : (((rdOf ByteArray.empty t456 x10_2).size : Int) != 0) = false := bne_eq_false_iff_eq.mpr c28
         clear c28
         obtain rfl := Option.some.inj H
         obtain ⟨Ao29, co29, eo29⟩ := Kd.R_slice HO_6.out
         subst eo29
         have p466 : 0 ≤ (x10_2 : Int) := od_
         have q466 : x10_2 < (t456.length : Int) := od_
         obtain ⟨ad466, e466, hx466_0⟩ := Kd.at_string (Kd.R_reads' HO_6.out).2.2 x10_2 p466 q466
         cases e466
         replace p466 := eq_true p466; replace q466 := eq_true q466
         have p467 : 0 ≤ (x10_2 : Int) := od_
         have q467 : x10_2 < (t456.length : Int) := od_
         obtain ⟨ad467, e467, hx467_0⟩ := Kd.at_string (Kd.R_reads' HO_6.out).2.2 x10_2 p467 q467
         obtain rfl : ad466 = ad467 := (by injection e467)
         replace p467 := eq_true p467; replace q467 := eq_true q467
         go_wp2
         go_ret
         exact ⟨rfe_, bl_⟩
       have c28b0 : (((rdOf ByteArray.empty t456 x10_2).size : Int) == 0) = false := beq_eq_false_iff_ne.mpr c28
       have c28b1 : (((rdOf ByteArray.empty t456 x10_2).size : Int) != 0) = true := bne_iff_ne.mpr c28
       have H' := Aside0.mk H; clear H
       obtain ⟨Ao30, co30, eo30⟩ := Kd.R_slice HO_6.out
       subst eo30
       have p466 : 0 ≤ (x10_2 : Int) := od_
       have q466 : x10_2 < (t456.length : Int) := od_
       obtain ⟨ad466, e466, hx466_0⟩ := Kd.at_string (Kd.R_reads' HO_6.out).2.2 x10_2 p466 q466
       cases e466
       replace p466 := eq_true p466; replace q466 := eq_true q466
       have p467 : 0 ≤ (x10_2 : Int) := od_
       have q467 : x10_2 < (t456.length : Int) := od_
       obtain ⟨ad467, e467, hx467_0⟩ := Kd.at_string (Kd.R_reads' HO_6.out).2.2 x10_2 p467 q467
       obtain rfl : ad466 = ad467 := (by injection e467)
       replace p467 := eq_true p467; replace q467 := eq_true q467
       go_wp2
       go_roundg k2
       case measure => have := HJ5.out; have := HK2.out; omega
       case rel => exact ⟨(wrap64 (x10_2 + 1)), rf_, H', ⟨by have := HJ5.out; have := HK2.out; omega⟩, ⟨kR_ HO_4⟩, ⟨kR_ HO_6⟩, ⟨bl_⟩⟩
     replace H := Option.bind_eq_some_iff.mp H
     obtain ⟨⟨t468, t469⟩, A310, H⟩ := H; try dsimp -simprocs only at H
     have A31 := Aside0.mk A310
     clear A310
     replace H := Option.bind_eq_some_iff.mp H
     obtain ⟨t472, A320, H⟩ := H; try dsimp -simprocs only at H
     have A32 := Aside0.mk A320
     clear A320
     replace H := Option.bind_eq_some_iff.mp H
     obtain ⟨t475, A330, H⟩ := H; try dsimp -simprocs only at H
     have A33 := Aside0.mk A330
     clear A330
     replace H := iub_ H; rcases H with ⟨rfl, H⟩ | ⟨rfl, H⟩
     · obtain rfl := Option.some.inj H
       obtain ⟨Ao52, co52, eo52⟩ := Kd.R_slice HO_6.out
       subst eo52
       go_wp2_with (first | ((with_reducible refine gate_callee (f := 12) rfl ?_); refine gl_ 81 Tryd.func12 #[.slice none 0 0, .slice Ao9 t450.length co9, .int .i64 t451] ?_; (refine (impl_Wrap.calls k2 _ _ ([] : List (S42)) _ _ t450 t451 t468 t469 _ ?side1 ?side2 ?side3 ?side4 A31.out).mono ?_); (case side1 => exact Kd.C_nil _ _); (case side2 => exact Nat.le_refl _); (case side3 => exact cr_ HO_4); (case side4 => exact (Kd.R_reads' HO_4.out).2.1); rintro e w53 ⟨v470, rfl, ho0, hb⟩; refine ⟨_, rfl, ?_⟩; have HO471 := Aside0.mk (Kd.R_lower (Kd.R_new' (Kd.R_new' ho0 (Kd.R_lt (kR_ HO_4))) (Kd.R_lt (kR_ HO_6))) (below_size (bl_))); replace HO_4 := Aside0.mk (Kd.R_elder' (kR_ HO_4) (Kd.R_base ho0) hb); replace HO_6 := Aside0.mk (Kd.R_elder' (kR_ HO_6) (Kd.R_base ho0) hb); replace HB := Aside0.mk (below_step (bl_) hb); (try clear hb); (try clear hb2); (try clear hk); (try clear hi); (try clear ho0)) | ((with_reducible refine gate_callee (f := 15) rfl ?_); refine gl_ 85 Tryd.func15 #[.slice Ao52 t456.length co52] ?_; (with_reducible refine (impl_Unwrap.calls k2 _ _ t456 t472 _ ?side1 ?side2 ?side3 A32.out).mono ?_); (case side1 => exact cr_ HO_6); (case side2 => exact (Kd.R_reads' HO_6.out).2.1); (case side3 => exact tab_below HTb.out (bl_)); rintro e w54 ⟨v473, rfl, ho0, hb⟩; refine ⟨_, rfl, ?_⟩; have HO474 := Aside0.mk (Kd.R_lower (Kd.R_new' (Kd.R_new' (Kd.R_new' ho0 (Kd.R_lt (kR_ HO_4))) (Kd.R_lt (kR_ HO_6))) (Kd.R_lt (kR_ HO471))) (below_size (bl_))); replace HO_4 := Aside0.mk (Kd.R_elder' (kR_ HO_4) (Kd.R_base ho0) hb); replace HO_6 := Aside0.mk (Kd.R_elder' (kR_ HO_6) (Kd.R_base ho0) hb); replace HO471 := Aside0.mk (Kd.R_elder' (kR_ HO471) (Kd.R_base ho0) hb); replace HB := Aside0.mk (below_step (bl_) hb); (try clear hb); (try clear hb2); (try clear hk); (try clear hi); (try clear ho0); obtain ⟨Ao55, co55, eo55⟩ := Kd.R_slice HO474.out; subst eo55) | ((with_reducible refine gate_callee (f := 14) rfl ?_); refine gl_ 87 Tryd.func14 #[.slice Ao55 t472.length co55, .slice Ao9 t450.length co9] ?_; (with_reducible refine (laws_mdTexts.calls k2 _ _ t472 _ _ t450 false _ ?side1 ?side2 ?side3 ?side4 A33.out).mono ?_); (case side1 => exact cr_ HO474); (case side2 => exact (Kd.R_reads' HO474.out).2.1); (case side3 => exact cr_ HO_4); (case side4 => exact (Kd.R_reads' HO_4.out).2.1); rintro e w' ⟨rfl, ⟨nd, rfl⟩⟩; refine ⟨_, rfl, ?_⟩))
       go_ret
       exact ⟨rfe_, bl_⟩
     replace H := Option.bind_eq_some_iff.mp H
     obtain ⟨t476, A350, H⟩ := H; try dsimp -simprocs only at H
     have A35 := Aside0.mk A350
     clear A350
     replace H := Option.bind_eq_some_iff.mp H
     obtain ⟨t479, A360, H⟩ := H; try dsimp -simprocs only at H
     have A36 := Aside0.mk A360
     clear A360
     replace H := itb_ H; rcases H with ⟨rfl, H⟩ | ⟨rfl, H⟩
     · obtain rfl := Option.some.inj H
       obtain ⟨Ao38, co38, eo38⟩ := Kd.R_slice HO_6.out
       subst eo38
       go_wp2_with (first | ((with_reducible refine gate_callee (f := 12) rfl ?_); refine gl_ 81 Tryd.func12 #[.slice none 0 0, .slice Ao9 t450.length co9, .int .i64 t451] ?_; (refine (impl_Wrap.calls k2 _ _ ([] : List (S42)) _ _ t450 t451 t468 t469 _ ?side1 ?side2 ?side3 ?side4 A31.out).mono ?_); (case side1 => exact Kd.C_nil _ _); (case side2 => exact Nat.le_refl _); (case side3 => exact cr_ HO_4); (case side4 => exact (Kd.R_reads' HO_4.out).2.1); rintro e w39 ⟨v470, rfl, ho0, hb⟩; refine ⟨_, rfl, ?_⟩; have HO471 := Aside0.mk (Kd.R_lower (Kd.R_new' (Kd.R_new' ho0 (Kd.R_lt (kR_ HO_4))) (Kd.R_lt (kR_ HO_6))) (below_size (bl_))); replace HO_4 := Aside0.mk (Kd.R_elder' (kR_ HO_4) (Kd.R_base ho0) hb); replace HO_6 := Aside0.mk (Kd.R_elder' (kR_ HO_6) (Kd.R_base ho0) hb); replace HB := Aside0.mk (below_step (bl_) hb); (try clear hb); (try clear hb2); (try clear hk); (try clear hi); (try clear ho0)) | ((with_reducible refine gate_callee (f := 15) rfl ?_); refine gl_ 85 Tryd.func15 #[.slice Ao38 t456.length co38] ?_; (with_reducible refine (impl_Unwrap.calls k2 _ _ t456 t472 _ ?side1 ?side2 ?side3 A32.out).mono ?_); (case side1 => exact cr_ HO_6); (case side2 => exact (Kd.R_reads' HO_6.out).2.1); (case side3 => exact tab_below HTb.out (bl_)); rintro e w40 ⟨v473, rfl, ho0, hb⟩; refine ⟨_, rfl, ?_⟩; have HO474 := Aside0.mk (Kd.R_lower (Kd.R_new' (Kd.R_new' (Kd.R_new' ho0 (Kd.R_lt (kR_ HO_4))) (Kd.R_lt (kR_ HO_6))) (Kd.R_lt (kR_ HO471))) (below_size (bl_))); replace HO_4 := Aside0.mk (Kd.R_elder' (kR_ HO_4) (Kd.R_base ho0) hb); replace HO_6 := Aside0.mk (Kd.R_elder' (kR_ HO_6) (Kd.R_base ho0) hb); replace HO471 := Aside0.mk (Kd.R_elder' (kR_ HO471) (Kd.R_base ho0) hb); replace HB := Aside0.mk (below_step (bl_) hb); (try clear hb); (try clear hb2); (try clear hk); (try clear hi); (try clear ho0); obtain ⟨Ao41, co41, eo41⟩ := Kd.R_slice HO474.out; subst eo41) | ((with_reducible refine gate_callee (f := 14) rfl ?_); refine gl_ 87 Tryd.func14 #[.slice Ao41 t472.length co41, .slice Ao9 t450.length co9] ?_; (with_reducible refine (laws_mdTexts.calls k2 _ _ t472 _ _ t450 true _ ?side1 ?side2 ?side3 ?side4 A33.out).mono ?_); (case side1 => exact cr_ HO474); (case side2 => exact (Kd.R_reads' HO474.out).2.1); (case side3 => exact cr_ HO_4); (case side4 => exact (Kd.R_reads' HO_4.out).2.1); rintro e w' ⟨rfl, ⟨nd, rfl⟩⟩; refine ⟨_, rfl, ?_⟩; obtain ⟨Ao42, co42, eo42⟩ := Kd.R_slice HO471.out; subst eo42) | (go_at_call 15; (with_reducible refine (impl_Unwrap.calls k2 _ _ t468 t476 _ ?side1 ?side2 ?side3 A35.out).mono ?_); (case side1 => exact cr_ HO471); (case side2 => exact (Kd.R_reads' HO471.out).2.1); (case side3 => exact tab_below HTb.out (bl_)); rintro e w43 ⟨v477, rfl, ho0, hb⟩; have HO478 := Aside0.mk (Kd.R_lower (Kd.R_new' (Kd.R_new' (Kd.R_new' (Kd.R_new' ho0 (Kd.R_lt (kR_ HO_4))) (Kd.R_lt (kR_ HO_6))) (Kd.R_lt (kR_ HO471))) (Kd.R_lt (kR_ HO474))) (below_size (bl_))); replace HO_4 := Aside0.mk (Kd.R_elder' (kR_ HO_4) (Kd.R_base ho0) hb); replace HO_6 := Aside0.mk (Kd.R_elder' (kR_ HO_6) (Kd.R_base ho0) hb); replace HO471 := Aside0.mk (Kd.R_elder' (kR_ HO471) (Kd.R_base ho0) hb); replace HO474 := Aside0.mk (Kd.R_elder' (kR_ HO474) (Kd.R_base ho0) hb); replace HB := Aside0.mk (below_step (bl_) hb); (try clear hb); (try clear hb2); (try clear hk); (try clear hi); (try clear ho0); obtain ⟨Ao44, co44, eo44⟩ := Kd.R_slice HO478.out; subst eo44) | (go_at_call 14; (with_reducible refine (laws_mdTexts.calls k2 _ _ t476 _ _ t450 true _ ?side1 ?side2 ?side3 ?side4 A36.out).mono ?_); (case side1 => exact cr_ HO478); (case side2 => exact (Kd.R_reads' HO478.out).2.1); (case side3 => exact cr_ HO_4); (case side4 => exact (Kd.R_reads' HO_4.out).2.1); rintro e w' ⟨rfl, ⟨nd, rfl⟩⟩))
       go_ret
       exact ⟨rfe_, bl_⟩
     obtain rfl := Option.some.inj H
     obtain ⟨Ao45, co45, eo45⟩ := Kd.R_slice HO_6.out
     subst eo45
     go_wp2_with (first | ((with_reducible refine gate_callee (f := 12) rfl ?_); refine gl_ 81 Tryd.func12 #[.slice none 0 0, .slice Ao9 t450.length co9, .int .i64 t451] ?_; (refine (impl_Wrap.calls k2 _ _ ([] : List (S42)) _ _ t450 t451 t468 t469 _ ?side1 ?side2 ?side3 ?side4 A31.out).mono ?_); (case side1 => exact Kd.C_nil _ _); (case side2 => exact Nat.le_refl _); (case side3 => exact cr_ HO_4); (case side4 => exact (Kd.R_reads' HO_4.out).2.1); rintro e w46 ⟨v470, rfl, ho0, hb⟩; refine ⟨_, rfl, ?_⟩; have HO471 := Aside0.mk (Kd.R_lower (Kd.R_new' (Kd.R_new' ho0 (Kd.R_lt (kR_ HO_4))) (Kd.R_lt (kR_ HO_6))) (below_size (bl_))); replace HO_4 := Aside0.mk (Kd.R_elder' (kR_ HO_4) (Kd.R_base ho0) hb); replace HO_6 := Aside0.mk (Kd.R_elder' (kR_ HO_6) (Kd.R_base ho0) hb); replace HB := Aside0.mk (below_step (bl_) hb); (try clear hb); (try clear hb2); (try clear hk); (try clear hi); (try clear ho0)) | ((with_reducible refine gate_callee (f := 15) rfl ?_); refine gl_ 85 Tryd.func15 #[.slice Ao45 t456.length co45] ?_; (with_reducible refine (impl_Unwrap.calls k2 _ _ t456 t472 _ ?side1 ?side2 ?side3 A32.out).mono ?_); (case side1 => exact cr_ HO_6); (case side2 => exact (Kd.R_reads' HO_6.out).2.1); (case side3 => exact tab_below HTb.out (bl_)); rintro e w47 ⟨v473, rfl, ho0, hb⟩; refine ⟨_, rfl, ?_⟩; have HO474 := Aside0.mk (Kd.R_lower (Kd.R_new' (Kd.R_new' (Kd.R_new' ho0 (Kd.R_lt (kR_ HO_4))) (Kd.R_lt (kR_ HO_6))) (Kd.R_lt (kR_ HO471))) (below_size (bl_))); replace HO_4 := Aside0.mk (Kd.R_elder' (kR_ HO_4) (Kd.R_base ho0) hb); replace HO_6 := Aside0.mk (Kd.R_elder' (kR_ HO_6) (Kd.R_base ho0) hb); replace HO471 := Aside0.mk (Kd.R_elder' (kR_ HO471) (Kd.R_base ho0) hb); replace HB := Aside0.mk (below_step (bl_) hb); (try clear hb); (try clear hb2); (try clear hk); (try clear hi); (try clear ho0); obtain ⟨Ao48, co48, eo48⟩ := Kd.R_slice HO474.out; subst eo48) | ((with_reducible refine gate_callee (f := 14) rfl ?_); refine gl_ 87 Tryd.func14 #[.slice Ao48 t472.length co48, .slice Ao9 t450.length co9] ?_; (with_reducible refine (laws_mdTexts.calls k2 _ _ t472 _ _ t450 true _ ?side1 ?side2 ?side3 ?side4 A33.out).mono ?_); (case side1 => exact cr_ HO474); (case side2 => exact (Kd.R_reads' HO474.out).2.1); (case side3 => exact cr_ HO_4); (case side4 => exact (Kd.R_reads' HO_4.out).2.1); rintro e w' ⟨rfl, ⟨nd, rfl⟩⟩; refine ⟨_, rfl, ?_⟩; obtain ⟨Ao49, co49, eo49⟩ := Kd.R_slice HO471.out; subst eo49) | (go_at_call 15; (with_reducible refine (impl_Unwrap.calls k2 _ _ t468 t476 _ ?side1 ?side2 ?side3 A35.out).mono ?_); (case side1 => exact cr_ HO471); (case side2 => exact (Kd.R_reads' HO471.out).2.1); (case side3 => exact tab_below HTb.out (bl_)); rintro e w50 ⟨v477, rfl, ho0, hb⟩; have HO478 := Aside0.mk (Kd.R_lower (Kd.R_new' (Kd.R_new' (Kd.R_new' (Kd.R_new' ho0 (Kd.R_lt (kR_ HO_4))) (Kd.R_lt (kR_ HO_6))) (Kd.R_lt (kR_ HO471))) (Kd.R_lt (kR_ HO474))) (below_size (bl_))); replace HO_4 := Aside0.mk (Kd.R_elder' (kR_ HO_4) (Kd.R_base ho0) hb); replace HO_6 := Aside0.mk (Kd.R_elder' (kR_ HO_6) (Kd.R_base ho0) hb); replace HO471 := Aside0.mk (Kd.R_elder' (kR_ HO471) (Kd.R_base ho0) hb); replace HO474 := Aside0.mk (Kd.R_elder' (kR_ HO474) (Kd.R_base ho0) hb); replace HB := Aside0.mk (below_step (bl_) hb); (try clear hb); (try clear hb2); (try clear hk); (try clear hi); (try clear ho0); obtain ⟨Ao51, co51, eo51⟩ := Kd.R_slice HO478.out; subst eo51) | (go_at_call 14; (with_reducible refine (laws_mdTexts.calls k2 _ _ t476 _ _ t450 false _ ?side1 ?side2 ?side3 ?side4 A36.out).mono ?_); (case side1 => exact cr_ HO478); (case side2 => exact (Kd.R_reads' HO478.out).2.1); (case side3 => exact cr_ HO_4); (case side4 => exact (Kd.R_reads' HO_4.out).2.1); rintro e w' ⟨rfl, ⟨nd, rfl⟩⟩))
     go_ret
     exact ⟨rfe_, bl_⟩

end Go.Proofs.YtlmbmfnimpjgmaaDoor.P
