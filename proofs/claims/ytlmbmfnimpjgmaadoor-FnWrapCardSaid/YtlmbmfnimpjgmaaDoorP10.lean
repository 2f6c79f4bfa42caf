-- Written by a program of this session (wip/gen/gen.py) out of Lean's print of the loaded program; Lean checks it.
import Derived.Test.YtlmbmfnimpjgmaaDoorP0
import Derived.Test.YtlmbmfnimpjgmaaDoorSq2
import Derived.Test.YtlmbmfnimpjgmaaDoorP1
import Derived.Test.YtlmbmfnimpjgmaaDoorP9
namespace Go.Proofs.YtlmbmfnimpjgmaaDoor.P
open Go.RowKit Go.Proofs.YtlmbmfnimpjgmaaDoorW.PrintWords Go.Proofs.YtlmbmfnimpjgmaaDoorW.PrintLast Go.Proofs.YtlmbmfnimpjgmaaDoorW.PrintMore
attribute [local go_sem] max2_int min2_int max_two min_two max_three min_three max_four min_four IntKind.wrap_u8 IntKind.wrap_u32 w64_256 w64_u32
set_option maxHeartbeats 8000000
set_option maxRecDepth 100000
set_option linter.unusedVariables false
set_option linter.unusedSimpArgs false

/-! ### spec_l9At: function 36 -/
def spec_l9At.l0 : Nat → ByteArray → List Int → List Int → Int → Option (List Int)
 | 0, _, _, _, _ => none
 | k + 1, x1, x5, x6, x7 => if x7 ≤ (wrap64 ((x1.size : Int) - 2)) then (if 0 ≤ (wrap64 (x7 + 1)) then (if (wrap64 (x7 + 1)) < (x6.length : Int) then (if (Int.tmod (rd x6 (wrap64 (x7 + 1))) 2) = 1 then (if x5.length < 17592186044416 then (spec_l9At.l0 k x1 (x5 ++ [x7]) x6 (wrap64 (x7 + 1))) else (none)) else (spec_l9At.l0 k x1 x5 x6 (wrap64 (x7 + 1)))) else (none)) else (none)) else (some x5)
def spec_l9At.f (k : Nat) (l0 : List (S42)) (a1 : ByteArray) : Option (List Int) := if 1 + a1.size ≤ 9223372036854775807 then (if 1 + a1.size + 1 ≤ 9223372036854775807 then ((spec_l9Marks.f k l0 (((⟨#[46]⟩ : ByteArray) ++ a1) ++ (⟨#[46]⟩ : ByteArray))).bind fun t367 => (spec_l9At.l0 k a1 (([] : List Int)) t367 2)) else (none)) else (none)
theorem spec_l9At.mono_l : ∀ k, (∀ y0 y1 y2 y3, LeO (spec_l9At.l0 k y0 y1 y2 y3) (spec_l9At.l0 (k + 1) y0 y1 y2 y3))
 | 0 => fun _ _ _ _ r h => by simp [spec_l9At.l0] at h
 | k + 1 => by
  have ih0 := spec_l9At.mono_l k
  · intro y0 y1 y2 y3
    unfold spec_l9At.l0
    have m0 := @spec_l9Marks.mono
    exact mn_
theorem spec_l9At.mono : ∀ a0 a1 k, LeO (spec_l9At.f k a0 a1) (spec_l9At.f (k + 1) a0 a1) := by
 intro a0 a1 k
 have ih0 := spec_l9At.mono_l k
 unfold spec_l9At.f
 have m0 := @spec_l9Marks.mono
 exact mn_
theorem spec_l9At.calls (k : Nat) (A0 : Option Addr) (c0 : Nat) (l0 : List (S42)) (a1 : ByteArray) (r : List Int) (w : World) (hr0 : Kd.C k42 w A0 l0.length l0) (hc0 : l0.length ≤ c0) (h : spec_l9At.f k l0 a1 = some r) :
 Calls Tryd.prog 36 #[.slice A0 l0.length c0, .string a1] w fun e w' => ∃ v0_ : Value, e = .returned (v0_) ∧ Kd.R (Kd.int .i64) 3 w' w.heap.size (fun _ => True) v0_ r ∧ Below w.heap.size w w' := by
 have HR0 := Aside0.mk hr0
 have HC0 := Aside0.mk hc0
 clear hr0 hc0
 have HB := Aside0.mk (Below.refl w.heap.size w)
 unfold spec_l9At.f at h; have H := h; clear h
 obtain ⟨y364, hy_⟩ : ∃ y_ : List Int, y_ = (([] : List Int)) := ⟨_, rfl⟩
 replace H : (if 1 + a1.size ≤ 9223372036854775807 then (if 1 + a1.size + 1 ≤ 9223372036854775807 then ((spec_l9Marks.f k l0 (((⟨#[46]⟩ : ByteArray) ++ a1) ++ (⟨#[46]⟩ : ByteArray))).bind fun t367 => (spec_l9At.l0 k a1 y364 t367 2)) else (none)) else (none)) = some r := ry_
 have Ny364 := Aside0.mk hy_; clear hy_
 replace H := inc_ H; obtain ⟨c3, H⟩ := H
 have c3b0 := eq_true c3
 have c3b1 : decide (1 + a1.size ≤ 9223372036854775807) = true := decide_eq_true c3
 try have c3b2 : (9223372036854775807 < 1 + a1.size) = False := eq_false (Nat.not_lt.2 c3)
 replace H := inc_ H; obtain ⟨c4, H⟩ := H
 have c4b0 := eq_true c4
 have c4b1 : decide (1 + a1.size + 1 ≤ 9223372036854775807) = true := decide_eq_true c4
 try have c4b2 : (9223372036854775807 < 1 + a1.size + 1) = False := eq_false (Nat.not_lt.2 c4)
 replace H := Option.bind_eq_some_iff.mp H
 obtain ⟨t367, A50, H⟩ := H; try dsimp -simprocs only at H
 have A5 := Aside0.mk A50
 clear A50
 have H' := Aside0.mk H; clear H
 go_enter Tryd.func36, Tryd.ntmps36
 go_wp2_with (first | ((with_reducible refine gate_dst (N := 8) rfl ?_); refine rl_ (Kd.int .i64) 3 8 ([] : List Int) [] ?_; intro v365 w6 ho7 hb hg_ hnew_; clear hg_ hnew_; (first | rw [← Ny364.out] at ho7 | (simp only [Int.reduceToNat] at ho7; rw [← Ny364.out] at ho7)); have HO366 := Aside0.mk (Kd.R_lower ho7 (below_size (bl_))); replace HB := Aside0.mk (below_step (bl_) hb); clear hb ho7) | ((with_reducible refine gate_callee (f := 52) rfl ?_); refine gl_ 13 Tryd.func52 #[.slice A0 l0.length c0, .string (((⟨#[46]⟩ : ByteArray) ++ a1) ++ (⟨#[46]⟩ : ByteArray))] ?_; (with_reducible refine (spec_l9Marks.calls k _ _ l0 (((⟨#[46]⟩ : ByteArray) ++ a1) ++ (⟨#[46]⟩ : ByteArray)) t367 _ ?side1 ?side2 A5.out).mono ?_); (case side1 => exact cb_ HR0); (case side2 => exact HC0.out); rintro e w8 ⟨v368, rfl, ho0, hb⟩; refine ⟨_, rfl, ?_⟩; have HO369 := Aside0.mk (Kd.R_lower (Kd.R_new' ho0 (Kd.R_lt (kR_ HO366))) (below_size (bl_))); replace HO366 := Aside0.mk (Kd.R_elder' (kR_ HO366) (Kd.R_base ho0) hb); replace HB := Aside0.mk (below_step (bl_) hb); (try clear hb); (try clear hb2); (try clear hk); (try clear hi); (try clear ho0)))
 go_loopg [5, 7] k (fun kq v5 v7 w' => ∃ (x5_1 : List Int) (x7_1 : Int), v7 = .int .i64 x7_1 ∧ Aside0 (spec_l9At.l0 kq a1 x5_1 t367 x7_1 = some r) ∧ Aside0 (kq ≤ k) ∧ Aside0 (Kd.R (Kd.int .i64) 3 w' w.heap.size (fun k_ => some k_ ≠ (v368 : Value).ownBlock) v5 x5_1) ∧ Aside0 (Kd.R (Kd.int .i64) 3 w' w.heap.size (fun k_ => some k_ ≠ (v5 : Value).ownBlock) v368 t367) ∧ Aside0 (Below w.heap.size w w'))
 case atStart => exact ⟨(y364), (2), rf_, H', ⟨Nat.le_refl _⟩, ⟨by (with_reducible repeat (first | apply Kd.R_alloc | apply Kd.R_drewN | apply Kd.R_drew)); exact Kd.R_mono HO366.out (fun _ hk => hk.2)⟩, ⟨by (with_reducible repeat (first | apply Kd.R_alloc | apply Kd.R_drewN | apply Kd.R_drew)); exact Kd.R_mono HO369.out (fun _ hk => hk.2)⟩, ⟨bl_⟩⟩
 case round =>
  clear H'
  (try clear p2);(try clear c3);(try clear c3b0);(try clear c3b1);(try clear c3b2);(try clear c4);(try clear c4b0);(try clear c4b1);(try clear c4b2);(try clear c5)
  obtain ⟨x5_1, x7_1, rfl, HA, HK1, HO_5, HO_6, HB⟩ := hrel
  cases gk with
  | zero => exact absurd HA.out (by simp [spec_l9At.l0])
  | succ k1 =>
   have H := HA.out
   clear HA
   simp only [spec_l9At.l0] at H
   replace H := iudd_ H; rcases H with ⟨c9b0, H⟩ | ⟨c9b0, H⟩
   · obtain rfl := Option.some.inj H
     go_wp2
     go_ret
     exact ⟨_, rfe_, by (with_reducible repeat (first | apply Kd.R_alloc | apply Kd.R_drewN | apply Kd.R_drew)); exact Kd.R_mono HO_5.out (fun _ hk => trivial), bl_⟩
   obtain ⟨ji10, hji10⟩ : ∃ j_ : Int, (wrap64 (x7_1 + 1)) = j_ := ⟨_, rfl⟩
   replace H : (if 0 ≤ (ji10) then (if (ji10) < (t367.length : Int) then (if (Int.tmod (rd t367 (ji10)) 2) = 1 then (if x5_1.length < 17592186044416 then (spec_l9At.l0 k1 a1 (x5_1 ++ [x7_1]) t367 ji10) else (none)) else (spec_l9At.l0 k1 a1 x5_1 t367 ji10)) else (none)) else (none)) = some r := by first | (rw [hji10] at H; exact H) | (simp only [hji10] at H ⊢; exact H)
   have hji10w : (IntKind.i64.wrap (x7_1 + 1)) = ji10 := (i64_w _).trans hji10
   replace H := ind_ H; obtain ⟨c11b0, H⟩ := H
   replace H := ind_ H; obtain ⟨c12b0, H⟩ := H
   replace H := iucc_ H; rcases H with ⟨c13, H⟩ | ⟨c13, H⟩
   · have c13b0 : ((Int.tmod (rd t367 (ji10)) 2) == 1) = false := beq_eq_false_iff_ne.mpr c13
     have c13b1 : ((Int.tmod (rd t367 (ji10)) 2) != 1) = true := bne_iff_ne.mpr c13
     have H' := Aside0.mk H; clear H
     obtain ⟨Ao17, co17, eo17⟩ := Kd.R_slice HO_6.out
     subst eo17
     have p370 : 0 ≤ ((ji10) : Int) := od_
     have q370 : (ji10) < (t367.length : Int) := od_
     obtain ⟨ad370, e370, hx370_0⟩ := Kd.at_int (Kd.R_reads' HO_6.out).2.2 (ji10) p370 q370
     cases e370
     replace p370 := eq_true p370; replace q370 := eq_true q370
     go_wp2
     go_roundg k1
     case measure => have := HK1.out; omega
     case rel => exact ⟨(x5_1), (ji10), (by first | rfl | (simp; done) | (simp only [← hji10] <;> (first | rfl | simp)) | (simp [*]; done)), H', ⟨by have := HK1.out; omega⟩, ⟨kR_ HO_5⟩, ⟨kR_ HO_6⟩, ⟨bl_⟩⟩
   have c13b0 : ((Int.tmod (rd t367 (ji10)) 2) == 1) = true := beq_iff_eq.mpr c13
   have c13b1 : ((Int.tmod (rd t367 (ji10)) 2) != 1) = false := bne_eq_false_iff_eq.mpr c13
   clear c13
   replace H := inc_ H; obtain ⟨c14, H⟩ := H
   have LMc14 := Aside0.mk c14
   clear c14
   obtain ⟨y371, hy_⟩ : ∃ y_ : List Int, y_ = (x5_1 ++ [x7_1]) := ⟨_, rfl⟩
   replace H : (spec_l9At.l0 k1 a1 y371 t367 ji10) = some r := ry_
   have Ny371 := Aside0.mk hy_; clear hy_
   have H' := Aside0.mk H; clear H
   obtain ⟨Ao15, co15, eo15⟩ := Kd.R_slice HO_6.out
   subst eo15
   have p370 : 0 ≤ ((ji10) : Int) := od_
   have q370 : (ji10) < (t367.length : Int) := od_
   obtain ⟨ad370, e370, hx370_0⟩ := Kd.at_int (Kd.R_reads' HO_6.out).2.2 (ji10) p370 q370
   cases e370
   replace p370 := eq_true p370; replace q370 := eq_true q370
   go_wp2_with (first | ((with_reducible refine gate_builtin (b := .append) (xs := #[.tmp 28, .tmp 30]) rfl ?_); at_builtin; refine Kd.R_append (Kd.int .i64) (w0 := w) w.heap.size rfl (.tmp 28) (.tmp 30) 29 3 (.int .i64 0) 8 rfl Tryd.underlying29 info3 rfl (by decide) (by omega) u5 x5_1 x7_1 [.int .i64 x7_1] (fun k_ => some k_ ≠ (.slice (some ad370) t367.length co15 : Value).ownBlock) (fun _ => False) rfl rfl ?aP (fun _ hk => hk.elim) ?aF ?aO ?aB ?aS ?aL ?_; (case aP => exact rfl); (case aB => exact (bl_)); (case aF => exact (fun k_ hk => Kd.fresh' (Kd.R_lt (kR_ HO_6)) k_ hk)); (case aO => exact (kR_ HO_5)); (case aS => exact (below_size (bl_))); (case aL => have := LMc14.out; omega); intro v372 w16 ho hb hg hat; rw [← Ny371.out] at ho; replace HO_6 := Aside0.mk (Kd.R_after (ok := (fun _ => True)) (by (with_reducible repeat (first | apply Kd.R_alloc | apply Kd.R_drewN | apply Kd.R_drew)); exact Kd.R_mono HO_6.out (fun _ hk => ⟨trivial, hk⟩)) hg hat); replace HB := Aside0.mk (hb); have HO373 := Aside0.mk (ho); clear HO_5; clear ho hb hg hat))
   go_roundg k1
   case measure => have := HK1.out; omega
   case rel => exact ⟨(y371), (ji10), (by first | rfl | (simp; done) | (simp only [← hji10] <;> (first | rfl | simp)) | (simp [*]; done)), H', ⟨by have := HK1.out; omega⟩, ⟨kR_ HO373⟩, ⟨by (with_reducible repeat (first | apply Kd.R_alloc | apply Kd.R_drewN | apply Kd.R_drew)); exact Kd.R_mono HO_6.out (fun _ hk => hk.2)⟩, ⟨bl_⟩⟩

/-! ### spec_l9Fit: function 48 -/
def spec_l9Fit.l0 : Nat → Int → List Int → Int → Int → Option (Int)
 | 0, _, _, _, _ => none
 | k + 1, x2, x7, x8, x9 => if x9 < (x7.length : Int) then (if 0 ≤ x9 then (if (wrap64 ((rd x7 x9) + 1)) ≤ x2 then (spec_l9Fit.l0 k x2 x7 (rd x7 x9) (wrap64 (x9 + 1))) else (spec_l9Fit.l0 k x2 x7 x8 (wrap64 (x9 + 1)))) else (none)) else (some x8)
def spec_l9Fit.f (k : Nat) (l0 : List (S42)) (a1 : ByteArray) (a2 : Int) : Option (Int) := (spec_l9At.f k l0 a1).bind fun t374 => (spec_l9Fit.l0 k a2 t374 0 0)
theorem spec_l9Fit.mono_l : ∀ k, (∀ y0 y1 y2 y3, LeO (spec_l9Fit.l0 k y0 y1 y2 y3) (spec_l9Fit.l0 (k + 1) y0 y1 y2 y3))
 | 0 => fun _ _ _ _ r h => by simp [spec_l9Fit.l0] at h
 | k + 1 => by
  have ih0 := spec_l9Fit.mono_l k
  · intro y0 y1 y2 y3
    unfold spec_l9Fit.l0
    have m0 := @spec_l9At.mono
    exact mn_
theorem spec_l9Fit.mono : ∀ a0 a1 a2 k, LeO (spec_l9Fit.f k a0 a1 a2) (spec_l9Fit.f (k + 1) a0 a1 a2) := by
 intro a0 a1 a2 k
 have ih0 := spec_l9Fit.mono_l k
 unfold spec_l9Fit.f
 have m0 := @spec_l9At.mono
 exact mn_
theorem spec_l9Fit.calls (k : Nat) (A0 : Option Addr) (c0 : Nat) (l0 : List (S42)) (a1 : ByteArray) (a2 : Int) (r : Int) (w : World) (hr0 : Kd.C k42 w A0 l0.length l0) (hc0 : l0.length ≤ c0) (h : spec_l9Fit.f k l0 a1 a2 = some r) :
 Calls Tryd.prog 48 #[.slice A0 l0.length c0, .string a1, .int .i64 a2] w fun e w' => e = .returned (.int .i64 r) ∧ Below w.heap.size w w' := by
 have HR0 := Aside0.mk hr0
 have HC0 := Aside0.mk hc0
 clear hr0 hc0
 have HB := Aside0.mk (Below.refl w.heap.size w)
 unfold spec_l9Fit.f at h; have H := h; clear h
 replace H := Option.bind_eq_some_iff.mp H
 obtain ⟨t374, A40, H⟩ := H; try dsimp -simprocs only at H
 have A4 := Aside0.mk A40
 clear A40
 have H' := Aside0.mk H; clear H
 go_enter Tryd.func48, Tryd.ntmps48
 go_wp2_with (first | ((with_reducible refine gate_callee (f := 36) rfl ?_); refine gl_ 12 Tryd.func36 #[.slice A0 l0.length c0, .string a1] ?_; (with_reducible refine (spec_l9At.calls k _ _ l0 a1 t374 _ ?side1 ?side2 A4.out).mono ?_); (case side1 => repeat (first | exact HR0.out | (with_reducible refine Kd.C_alloc ?_ _) | (with_reducible refine Kd.C_drewN ?_ _) | (with_reducible refine Kd.C_drew ?_))); (case side2 => exact HC0.out); rintro e w5 ⟨v375, rfl, ho0, hb⟩; refine ⟨_, rfl, ?_⟩; have HO376 := Aside0.mk (Kd.R_lower ho0 (below_size (bl_))); replace HB := Aside0.mk (below_step (bl_) hb); (try clear hb); (try clear hb2); (try clear hk); (try clear hi); (try clear ho0)))
 go_loopg [8, 9] k (fun kq v8 v9 w' => ∃ (x8_1 : Int) (x9_1 : Int), v8 = .int .i64 x8_1 ∧ v9 = .int .i64 x9_1 ∧ Aside0 (spec_l9Fit.l0 kq a2 t374 x8_1 x9_1 = some r) ∧ Aside0 (kq ≤ k) ∧ Aside0 (Kd.R (Kd.int .i64) 3 w' w.heap.size (fun _ => True) v375 t374) ∧ Aside0 (Below w.heap.size w w'))
 case atStart => exact ⟨(0), (0), rf_, rf_, H', ⟨Nat.le_refl _⟩, ⟨kR_ HO376⟩, ⟨bl_⟩⟩
 case round =>
  clear H'
  (try clear p2);(try clear c3);(try clear c4)
  obtain ⟨x8_1, x9_1, rfl, rfl, HA, HK1, HO_7, HB⟩ := hrel
  cases gk with
  | zero => exact absurd HA.out (by simp [spec_l9Fit.l0])
  | succ k1 =>
   have H := HA.out
   clear HA
   simp only [spec_l9Fit.l0] at H
   replace H := iudd_ H; rcases H with ⟨c6b0, H⟩ | ⟨c6b0, H⟩
   · obtain rfl := Option.some.inj H
     obtain ⟨Ao11, co11, eo11⟩ := Kd.R_slice HO_7.out
     subst eo11
     go_wp2
     go_ret
     exact ⟨rfe_, bl_⟩
   replace H := ind_ H; obtain ⟨c7b0, H⟩ := H
   replace H := iudd_ H; rcases H with ⟨c8b0, H⟩ | ⟨c8b0, H⟩
   · have H' := Aside0.mk H
     clear H
     obtain ⟨Ao10, co10, eo10⟩ := Kd.R_slice HO_7.out
     subst eo10
     have p377 : 0 ≤ (x9_1 : Int) := od_
     have q377 : x9_1 < (t374.length : Int) := od_
     obtain ⟨ad377, e377, hx377_0⟩ := Kd.at_int (Kd.R_reads' HO_7.out).2.2 x9_1 p377 q377
     cases e377
     replace p377 := eq_true p377; replace q377 := eq_true q377
     go_wp2
     go_roundg k1
     case measure => have := HK1.out; omega
     case rel => exact ⟨(x8_1), (wrap64 (x9_1 + 1)), rf_, rf_, H', ⟨by have := HK1.out; omega⟩, ⟨kR_ HO_7⟩, ⟨bl_⟩⟩
   have H' := Aside0.mk H; clear H
   obtain ⟨Ao9, co9, eo9⟩ := Kd.R_slice HO_7.out
   subst eo9
   have p377 : 0 ≤ (x9_1 : Int) := od_
   have q377 : x9_1 < (t374.length : Int) := od_
   obtain ⟨ad377, e377, hx377_0⟩ := Kd.at_int (Kd.R_reads' HO_7.out).2.2 x9_1 p377 q377
   cases e377
   replace p377 := eq_true p377; replace q377 := eq_true q377
   have p378 : 0 ≤ (x9_1 : Int) := od_
   have q378 : x9_1 < (t374.length : Int) := od_
   obtain ⟨ad378, e378, hx378_0⟩ := Kd.at_int (Kd.R_reads' HO_7.out).2.2 x9_1 p378 q378
   obtain rfl : ad377 = ad378 := (by injection e378)
   replace p378 := eq_true p378; replace q378 := eq_true q378
   go_wp2
   go_roundg k1
   case measure => have := HK1.out; omega
   case rel => exact ⟨(rd t374 x9_1), (wrap64 (x9_1 + 1)), rf_, rf_, H', ⟨by have := HK1.out; omega⟩, ⟨kR_ HO_7⟩, ⟨bl_⟩⟩

/-! ### spec_l9Wrap: function 32 -/
mutual
def spec_l9Wrap.l0 : Nat → List (S42) → List ByteArray → Int → List ByteArray → ByteArray → Int → Option (List ByteArray)
 | 0, _, _, _, _, _, _ => none
 | k + 1, x0, x1, x2, x7, x8, x9 => if x9 < (x1.length : Int) then (if x8.toList = ([] : List UInt8) then (spec_l9Wrap.j1 k x0 x1 x2 x7 x8 x9 (wrap64 (x2 - (x8.size : Int)))) else (spec_l9Wrap.j1 k x0 x1 x2 x7 x8 x9 (wrap64 ((wrap64 (x2 - (x8.size : Int))) - 1)))) else (if x8.toList = ([] : List UInt8) then (some x7) else (if x7.length < 8796093022208 then (some (x7 ++ [x8])) else (none)))
def spec_l9Wrap.j1 : Nat → List (S42) → List ByteArray → Int → List ByteArray → ByteArray → Int → Int → Option (List ByteArray)
 | 0, _, _, _, _, _, _, _ => none
 | k + 1, x0, x1, x2, x7, x8, x9, x10 => if 0 ≤ x9 then (if x9 < (x1.length : Int) then (if ((rdOf ByteArray.empty x1 x9).size : Int) ≤ x10 then ((spec_l9Join.f x8 (rdOf ByteArray.empty x1 x9)).bind fun t387 => (spec_l9Wrap.l0 k x0 x1 x2 x7 t387 (wrap64 (x9 + 1)))) else ((spec_l9Fit.f k x0 (rdOf ByteArray.empty x1 x9) x10).bind fun t389 => (if t389 > 0 then (if 0 ≤ t389 then (if t389 ≤ ((rdOf ByteArray.empty x1 x9).size : Int) then (if (t389 : Int).toNat + 1 ≤ 9223372036854775807 then ((spec_l9Join.f x8 (((rdOf ByteArray.empty x1 x9).extract 0 (t389 : Int).toNat) ++ (⟨#[45]⟩ : ByteArray))).bind fun t391 => (if x7.length < 8796093022208 then (spec_l9Wrap.l0 k x0 x1 x2 (x7 ++ [t391]) ((rdOf ByteArray.empty x1 x9).extract (t389 : Int).toNat (rdOf ByteArray.empty x1 x9).size) (wrap64 (x9 + 1))) else (none))) else (none)) else (none)) else (none)) else (if x8.toList = ([] : List UInt8) then (spec_l9Wrap.l0 k x0 x1 x2 x7 (rdOf ByteArray.empty x1 x9) (wrap64 (x9 + 1))) else (if x7.length < 8796093022208 then (spec_l9Wrap.l0 k x0 x1 x2 (x7 ++ [x8]) (rdOf ByteArray.empty x1 x9) (wrap64 (x9 + 1))) else (none)))))) else (none)) else (none)
end
def spec_l9Wrap.f (k : Nat) (l0 : List (S42)) (l1 : List ByteArray) (a2 : Int) : Option (List ByteArray) := spec_l9Wrap.l0 k l0 l1 a2 (([] : List ByteArray)) (⟨#[]⟩ : ByteArray) 0
theorem spec_l9Wrap.mono_l : ∀ k, (∀ y0 y1 y2 y3 y4 y5, LeO (spec_l9Wrap.l0 k y0 y1 y2 y3 y4 y5) (spec_l9Wrap.l0 (k + 1) y0 y1 y2 y3 y4 y5)) ∧ (∀ y0 y1 y2 y3 y4 y5 y6, LeO (spec_l9Wrap.j1 k y0 y1 y2 y3 y4 y5 y6) (spec_l9Wrap.j1 (k + 1) y0 y1 y2 y3 y4 y5 y6))
 | 0 => ⟨fun _ _ _ _ _ _ r h => by simp [spec_l9Wrap.l0] at h, fun _ _ _ _ _ _ _ r h => by simp [spec_l9Wrap.j1] at h⟩
 | k + 1 => by
  obtain ⟨ih0, ih1⟩ := spec_l9Wrap.mono_l k
  refine ⟨?_, ?_⟩
  · intro y0 y1 y2 y3 y4 y5
    unfold spec_l9Wrap.l0
    have m0 := @spec_l9Fit.mono
    exact mn_
  · intro y0 y1 y2 y3 y4 y5 y6
    unfold spec_l9Wrap.j1
    have m0 := @spec_l9Fit.mono
    exact mn_
theorem spec_l9Wrap.mono : ∀ a0 a1 a2 k, LeO (spec_l9Wrap.f k a0 a1 a2) (spec_l9Wrap.f (k + 1) a0 a1 a2) := by
 intro a0 a1 a2 k
 obtain ⟨ih0, ih1⟩ := spec_l9Wrap.mono_l k
 unfold spec_l9Wrap.f
 have m0 := @spec_l9Fit.mono
 exact mn_
theorem spec_l9Wrap.calls (k : Nat) (A0 : Option Addr) (c0 : Nat) (l0 : List (S42)) (A1 : Option Addr) (c1 : Nat) (l1 : List ByteArray) (a2 : Int) (r : List ByteArray) (w : World) (hr0 : Kd.C k42 w A0 l0.length l0) (hc0 : l0.length ≤ c0) (hr1 : Kd.C Kd.string w A1 l1.length l1) (hc1 : l1.length ≤ c1) (h : spec_l9Wrap.f k l0 l1 a2 = some r) :
 Calls Tryd.prog 32 #[.slice A0 l0.length c0, .slice A1 l1.length c1, .int .i64 a2] w fun e w' => ∃ v0_ : Value, e = .returned (v0_) ∧ Kd.R Kd.string 9 w' w.heap.size (fun _ => True) v0_ r ∧ Below w.heap.size w w' := by
 have HR0 := Aside0.mk hr0
 have HC0 := Aside0.mk hc0
 clear hr0 hc0
 have HR1 := Aside0.mk hr1
 have HC1 := Aside0.mk hc1
 clear hr1 hc1
 have HB := Aside0.mk (Below.refl w.heap.size w)
 unfold spec_l9Wrap.f at h; have H := h; clear h
 obtain ⟨y379, hy_⟩ : ∃ y_ : List ByteArray, y_ = (([] : List ByteArray)) := ⟨_, rfl⟩
 replace H : (spec_l9Wrap.l0 k l0 l1 a2 y379 (⟨#[]⟩ : ByteArray) 0) = some r := ry_
 have Ny379 := Aside0.mk hy_; clear hy_
 have H' := Aside0.mk H; clear H
 go_enter Tryd.func32, Tryd.ntmps32
 go_wp2_with (first | ((with_reducible refine gate_dst (N := 12) rfl ?_); refine rl_ Kd.string 9 12 ([] : List ByteArray) [] ?_; intro v380 w4 ho5 hb hg_ hnew_; clear hg_ hnew_; (first | rw [← Ny379.out] at ho5 | (simp only [Int.reduceToNat] at ho5; rw [← Ny379.out] at ho5)); have HO381 := Aside0.mk (Kd.R_lower ho5 (below_size (bl_))); replace HB := Aside0.mk (below_step (bl_) hb); clear hb ho5))
 go_loopg [7, 8, 9] k (fun kq v7 v8 v9 w' => ∃ (x7_1 : List ByteArray) (x8_1 : ByteArray) (x9_1 : Int), v8 = .string x8_1 ∧ v9 = .int .i64 x9_1 ∧ Aside0 (spec_l9Wrap.l0 kq l0 l1 a2 x7_1 x8_1 x9_1 = some r) ∧ Aside0 (kq ≤ k) ∧ Aside0 (Kd.R Kd.string 9 w' w.heap.size (fun _ => True) v7 x7_1) ∧ Aside0 (Below w.heap.size w w'))
 case atStart => exact ⟨(y379), ((⟨#[]⟩ : ByteArray)), (0), rf_, rf_, H', ⟨Nat.le_refl _⟩, ⟨kR_ HO381⟩, ⟨bl_⟩⟩
 case round =>
  clear H'
  (try clear c1);(try clear p2);(try clear c3)
  obtain ⟨x7_1, x8_1, x9_1, rfl, rfl, HA, HK1, HO_7, HB⟩ := hrel
  cases gk with
  | zero => exact absurd HA.out (by simp [spec_l9Wrap.l0])
  | succ k1 =>
   have H := HA.out
   clear HA
   simp only [spec_l9Wrap.l0] at H
   replace H := iucd_ H; rcases H with ⟨c6b0, H⟩ | ⟨c6, H⟩
   · replace H := itcc_ H; rcases H with ⟨c29, H⟩ | ⟨c29, H⟩
     · have c29b0 : (x8_1.toList == ([] : List UInt8)) = true := beq_iff_eq.mpr c29
       have c29be : x8_1.toList.isEmpty = true := by rw [List.isEmpty_iff]; exact c29
       have c29b1 : (x8_1.toList != ([] : List UInt8)) = false := bne_eq_false_iff_eq.mpr c29
       clear c29
       obtain rfl := Option.some.inj H
       go_wp2
       go_ret
       exact ⟨_, rfe_, kR_ HO_7, bl_⟩
     have c29b0 : (x8_1.toList == ([] : List UInt8)) = false := beq_eq_false_iff_ne.mpr c29
     have c29be : x8_1.toList.isEmpty = false := by rw [← Bool.not_eq_true, List.isEmpty_iff]; exact c29
     have c29b1 : (x8_1.toList != ([] : List UInt8)) = true := bne_iff_ne.mpr c29
     replace H := inc_ H; obtain ⟨c30, H⟩ := H
     have LMc30 := Aside0.mk c30
     clear c30
     obtain ⟨y382, hy_⟩ : ∃ y_ : List ByteArray, y_ = (x7_1 ++ [x8_1]) := ⟨_, rfl⟩
     replace H : (some y382) = some r := ry_
     have Ny382 := Aside0.mk hy_; clear hy_
     obtain rfl := Option.some.inj H
     go_wp2_with (first | ((with_reducible refine gate_builtin (b := .append) (xs := #[.tmp 79, .tmp 81]) rfl ?_); at_builtin; refine Kd.R_append Kd.string (w0 := w) w.heap.size rfl (.tmp 79) (.tmp 81) 32 9 (.string ⟨#[]⟩) 16 rfl Tryd.underlying32 info9 rfl (by decide) (by omega) u7 x7_1 x8_1 [.string x8_1] (fun _ => True) (fun _ => False) rfl rfl ?aP (fun _ hk => hk.elim) ?aF ?aO ?aB ?aS ?aL ?_; (case aP => exact rfl); (case aB => exact (bl_)); (case aF => exact (fun _ _ => trivial)); (case aO => exact (kR_ HO_7)); (case aS => exact (below_size (bl_))); (case aL => have := LMc30.out; omega); intro v383 w31 ho hb hg hat; rw [← Ny382.out] at ho; replace HB := Aside0.mk (hb); have HO384 := Aside0.mk (ho); clear HO_7; clear ho hb hg hat))
     go_ret
     exact ⟨_, rfe_, kR_ HO384, bl_⟩
   have c6b0 : decide (x9_1 < (l1.length : Int)) = true := decide_eq_true c6
   clear c6
   have HC7 := Aside0.mk H
   clear H
   go_upto_if 24 with (fail)
   go_cut [10] (fun v10 wc => ∃ (kq : Nat) (x10_6 : Int), v10 = .int .i64 x10_6 ∧ Aside0 (spec_l9Wrap.j1 kq l0 l1 a2 x7_1 x8_1 x9_1 x10_6 = some r) ∧ Aside0 (kq ≤ k1) ∧ Aside0 (Kd.R Kd.string 9 wc w.heap.size (fun _ => True) u7 x7_1) ∧ Aside0 (Below w.heap.size w wc))
   case first =>
    have H := HC7.out
    clear HC7
    replace H := itcc_ H; rcases H with ⟨c8, H⟩ | ⟨c8, H⟩
    · have c8b0 : (x8_1.toList == ([] : List UInt8)) = true := beq_iff_eq.mpr c8
      have c8be : x8_1.toList.isEmpty = true := by rw [List.isEmpty_iff]; exact c8
      have c8b1 : (x8_1.toList != ([] : List UInt8)) = false := bne_eq_false_iff_eq.mpr c8
      clear c8
      (first | rw [c8b0] | rw [c8be] | (simp only [i64_w, i32_w]; rw [c8b0]) | skip)
      have H' := Aside0.mk H; clear H
      go_wp2
      go_meet
      case rel => exact ⟨_, (wrap64 (a2 - (x8_1.size : Int))), rf_, H', ⟨by have := HK1.out; first | omega | exact Nat.le_refl _⟩, ⟨kR_ HO_7⟩, ⟨bl_⟩⟩
    have c8b0 : (x8_1.toList == ([] : List UInt8)) = false := beq_eq_false_iff_ne.mpr c8
    have c8be : x8_1.toList.isEmpty = false := by rw [← Bool.not_eq_true, List.isEmpty_iff]; exact c8
    have c8b1 : (x8_1.toList != ([] : List UInt8)) = true := bne_iff_ne.mpr c8
    (first | rw [c8b0] | rw [c8be] | (simp only [i64_w, i32_w]; rw [c8b0]) | skip)
    have H' := Aside0.mk H; clear H
    go_wp2
    go_meet
    case rel => exact ⟨_, (wrap64 ((wrap64 (a2 - (x8_1.size : Int))) - 1)), rf_, H', ⟨by have := HK1.out; first | omega | exact Nat.le_refl _⟩, ⟨kR_ HO_7⟩, ⟨bl_⟩⟩
   case rest =>
    clear HC7
    (try clear c1);(try clear p2);(try clear c3);(try clear c6);(try clear c6b0);(try clear p6);(try clear c8);(try clear c8b0);(try clear c8b1);(try clear p2)
    obtain ⟨kq, x10_6, rfl, HA, HJ6, HO_7, HB⟩ := hcut
    cases kq with
    | zero => exact absurd HA.out (by simp [spec_l9Wrap.j1])
    | succ kj6 =>
     have H := HA.out
     clear HA
     simp only [spec_l9Wrap.j1] at H
     replace H := ind_ H; obtain ⟨c9b0, H⟩ := H
     replace H := ind_ H; obtain ⟨c10b0, H⟩ := H
     replace H := itdd_ H; rcases H with ⟨c11b0, H⟩ | ⟨c11b0, H⟩
     · replace H := Option.bind_eq_some_iff.mp H
       obtain ⟨t387, A120, H⟩ := H; try dsimp -simprocs only at H
       have A12 := Aside0.mk A120
       clear A120
       have H' := Aside0.mk H; clear H
       have p385 : 0 ≤ (x9_1 : Int) := od_
       have q385 : x9_1 < (l1.length : Int) := od_
       obtain ⟨ad385, e385, hx385_0⟩ := Kd.at_string HR1.out x9_1 p385 q385
       cases e385
       replace hx385_0 := hc_ HB hx385_0
       replace p385 := eq_true p385; replace q385 := eq_true q385
       have p386 : 0 ≤ (x9_1 : Int) := od_
       have q386 : x9_1 < (l1.length : Int) := od_
       obtain ⟨ad386, e386, hx386_0⟩ := Kd.at_string HR1.out x9_1 p386 q386
       obtain rfl : ad385 = ad386 := (by injection e386)
       replace hx386_0 := hc_ HB hx386_0
       replace p386 := eq_true p386; replace q386 := eq_true q386
       go_wp2_with (first | ((with_reducible refine gate_callee (f := 47) rfl ?_); refine gl_ 39 Tryd.func47 #[.string x8_1, .string (rdOf ByteArray.empty l1 x9_1)] ?_; (with_reducible refine (spec_l9Join.calls x8_1 (rdOf ByteArray.empty l1 x9_1) t387 _ A12.out).mono ?_); rintro e w' ⟨rfl, ⟨nd, rfl⟩⟩; refine ⟨_, rfl, ?_⟩))
       go_roundg kj6
       case measure => have := HK1.out; have := HJ6.out; omega
       case rel => exact ⟨(x7_1), (t387), (wrap64 (x9_1 + 1)), rf_, rf_, H', ⟨by have := HK1.out; have := HJ6.out; omega⟩, ⟨kR_ HO_7⟩, ⟨bl_⟩⟩
     replace H := Option.bind_eq_some_iff.mp H
     obtain ⟨t389, A130, H⟩ := H; try dsimp -simprocs only at H
     have A13 := Aside0.mk A130
     clear A130
     replace H := itcc_ H; rcases H with ⟨c14, H⟩ | ⟨c14, H⟩
     · have c14b0 : decide (0 < t389) = true := decide_eq_true c14
       clear c14
       replace H := inc_ H; obtain ⟨c15, H⟩ := H
       have c15b0 := eq_true c15
       have c15b1 : decide (0 ≤ t389) = true := decide_eq_true c15
       clear c15
       replace H := inc_ H; obtain ⟨c16, H⟩ := H
       have c16b0 := eq_true c16
       have c16b1 : decide (t389 ≤ ((rdOf ByteArray.empty l1 x9_1).size : Int)) = true := decide_eq_true c16
       clear c16
       replace H := inc_ H; obtain ⟨c17, H⟩ := H
       have c17b0 := eq_true c17
       have c17b1 : decide ((t389 : Int).toNat + 1 ≤ 9223372036854775807) = true := decide_eq_true c17
       try have c17b2 : (9223372036854775807 < (t389 : Int).toNat + 1) = False := eq_false (Nat.not_lt.2 c17)
       replace H := Option.bind_eq_some_iff.mp H
       obtain ⟨t391, A180, H⟩ := H; try dsimp -simprocs only at H
       have A18 := Aside0.mk A180
       clear A180
       replace H := inc_ H; obtain ⟨c19, H⟩ := H
       have LMc19 := Aside0.mk c19
       clear c19
       obtain ⟨y392, hy_⟩ : ∃ y_ : List ByteArray, y_ = (x7_1 ++ [t391]) := ⟨_, rfl⟩
       replace H : (spec_l9Wrap.l0 kj6 l0 l1 a2 y392 ((rdOf ByteArray.empty l1 x9_1).extract (t389 : Int).toNat (rdOf ByteArray.empty l1 x9_1).size) (wrap64 (x9_1 + 1))) = some r := ry_
       have Ny392 := Aside0.mk hy_; clear hy_
       have c20b0 := eq_true (od_ : 0 ≤ t389)
       have c21b0 := eq_true (od_ : t389 ≤ ((rdOf ByteArray.empty l1 x9_1).size : Int))
       have H' := Aside0.mk H; clear H
       have p385 : 0 ≤ (x9_1 : Int) := od_
       have q385 : x9_1 < (l1.length : Int) := od_
       obtain ⟨ad385, e385, hx385_0⟩ := Kd.at_string HR1.out x9_1 p385 q385
       cases e385
       replace hx385_0 := hc_ HB hx385_0
       replace p385 := eq_true p385; replace q385 := eq_true q385
       have p388 : 0 ≤ (x9_1 : Int) := od_
       have q388 : x9_1 < (l1.length : Int) := od_
       obtain ⟨ad388, e388, hx388_0⟩ := Kd.at_string HR1.out x9_1 p388 q388
       obtain rfl : ad385 = ad388 := (by injection e388)
       replace hx388_0 := hc_ HB hx388_0
       replace p388 := eq_true p388; replace q388 := eq_true q388
       go_wp2_with (first | ((with_reducible refine gate_callee (f := 48) rfl ?_); refine gl_ 46 Tryd.func48 #[.slice A0 l0.length c0, .string (rdOf ByteArray.empty l1 x9_1), .int .i64 x10_6] ?_; (with_reducible refine (spec_l9Fit.calls kj6 _ _ l0 (rdOf ByteArray.empty l1 x9_1) x10_6 t389 _ ?side1 ?side2 A13.out).mono ?_); (case side1 => exact cb_ HR0); (case side2 => exact HC0.out); rintro e w22 ⟨rfl, hb⟩; refine ⟨_, rfl, ?_⟩; replace HO_7 := Aside0.mk (Kd.R_below (kR_ HO_7) hb); replace HB := Aside0.mk (below_step (bl_) hb); (try clear hb); (try clear hb2); (try clear hk); (try clear hi); have p390 : 0 ≤ (x9_1 : Int) := od_; have q390 : x9_1 < (l1.length : Int) := od_; obtain ⟨ad390, e390, hx390_0⟩ := Kd.at_string HR1.out x9_1 p390 q390; obtain rfl : ad385 = ad390 := (by injection e390); replace hx390_0 := hc_ HB hx390_0; replace p390 := eq_true p390; replace q390 := eq_true q390) | ((with_reducible refine gate_callee (f := 47) rfl ?_); refine gl_ 58 Tryd.func47 #[.string x8_1, .string (((rdOf ByteArray.empty l1 x9_1).extract 0 (t389 : Int).toNat) ++ (⟨#[45]⟩ : ByteArray))] ?_; (with_reducible refine (spec_l9Join.calls x8_1 (((rdOf ByteArray.empty l1 x9_1).extract 0 (t389 : Int).toNat) ++ (⟨#[45]⟩ : ByteArray)) t391 _ A18.out).mono ?_); rintro e w' ⟨rfl, ⟨nd, rfl⟩⟩; refine ⟨_, rfl, ?_⟩) | ((with_reducible refine gate_builtin (b := .append) (xs := #[.tmp 49, .tmp 59]) rfl ?_); at_builtin; refine Kd.R_append Kd.string (w0 := w) w.heap.size rfl (.tmp 49) (.tmp 59) 32 9 (.string ⟨#[]⟩) 16 rfl Tryd.underlying32 info9 rfl (by decide) (by omega) u7 x7_1 t391 [.string t391] (fun _ => True) (fun _ => False) rfl rfl ?aP (fun _ hk => hk.elim) ?aF ?aO ?aB ?aS ?aL ?_; (case aP => exact rfl); (case aB => exact (bl_)); (case aF => exact (fun _ _ => trivial)); (case aO => exact (kR_ HO_7)); (case aS => exact (below_size (bl_))); (case aL => have := LMc19.out; omega); intro v393 w23 ho hb hg hat; rw [← Ny392.out] at ho; replace HB := Aside0.mk (hb); have HO394 := Aside0.mk (ho); clear HO_7; clear ho hb hg hat; have p395 : 0 ≤ (x9_1 : Int) := od_; have q395 : x9_1 < (l1.length : Int) := od_; obtain ⟨ad395, e395, hx395_0⟩ := Kd.at_string HR1.out x9_1 p395 q395; obtain rfl : ad385 = ad395 := (by injection e395); replace hx395_0 := hc_ HB hx395_0; replace p395 := eq_true p395; replace q395 := eq_true q395))
       go_roundg kj6
       case measure => have := HK1.out; have := HJ6.out; omega
       case rel => exact ⟨(y392), ((rdOf ByteArray.empty l1 x9_1).extract (t389 : Int).toNat (rdOf ByteArray.empty l1 x9_1).size), (wrap64 (x9_1 + 1)), rf_, rf_, H', ⟨by have := HK1.out; have := HJ6.out; omega⟩, ⟨kR_ HO394⟩, ⟨bl_⟩⟩
     have c14b0 : decide (0 < t389) = false := decide_eq_false c14
     clear c14
     replace H := itcc_ H; rcases H with ⟨c24, H⟩ | ⟨c24, H⟩
     · have c24b0 : (x8_1.toList == ([] : List UInt8)) = true := beq_iff_eq.mpr c24
       have c24be : x8_1.toList.isEmpty = true := by rw [List.isEmpty_iff]; exact c24
       have c24b1 : (x8_1.toList != ([] : List UInt8)) = false := bne_eq_false_iff_eq.mpr c24
       clear c24
       have H' := Aside0.mk H; clear H
       have p385 : 0 ≤ (x9_1 : Int) := od_
       have q385 : x9_1 < (l1.length : Int) := od_
       obtain ⟨ad385, e385, hx385_0⟩ := Kd.at_string HR1.out x9_1 p385 q385
       cases e385
       replace hx385_0 := hc_ HB hx385_0
       replace p385 := eq_true p385; replace q385 := eq_true q385
       have p388 : 0 ≤ (x9_1 : Int) := od_
       have q388 : x9_1 < (l1.length : Int) := od_
       obtain ⟨ad388, e388, hx388_0⟩ := Kd.at_string HR1.out x9_1 p388 q388
       obtain rfl : ad385 = ad388 := (by injection e388)
       replace hx388_0 := hc_ HB hx388_0
       replace p388 := eq_true p388; replace q388 := eq_true q388
       go_wp2_with (first | ((with_reducible refine gate_callee (f := 48) rfl ?_); refine gl_ 46 Tryd.func48 #[.slice A0 l0.length c0, .string (rdOf ByteArray.empty l1 x9_1), .int .i64 x10_6] ?_; (with_reducible refine (spec_l9Fit.calls kj6 _ _ l0 (rdOf ByteArray.empty l1 x9_1) x10_6 t389 _ ?side1 ?side2 A13.out).mono ?_); (case side1 => exact cb_ HR0); (case side2 => exact HC0.out); rintro e w25 ⟨rfl, hb⟩; refine ⟨_, rfl, ?_⟩; replace HO_7 := Aside0.mk (Kd.R_below (kR_ HO_7) hb); replace HB := Aside0.mk (below_step (bl_) hb); (try clear hb); (try clear hb2); (try clear hk); (try clear hi); have p396 : 0 ≤ (x9_1 : Int) := od_; have q396 : x9_1 < (l1.length : Int) := od_; obtain ⟨ad396, e396, hx396_0⟩ := Kd.at_string HR1.out x9_1 p396 q396; obtain rfl : ad385 = ad396 := (by injection e396); replace hx396_0 := hc_ HB hx396_0; replace p396 := eq_true p396; replace q396 := eq_true q396))
       go_roundg kj6
       case measure => have := HK1.out; have := HJ6.out; omega
       case rel => exact ⟨(x7_1), (rdOf ByteArray.empty l1 x9_1), (wrap64 (x9_1 + 1)), rf_, rf_, H', ⟨by have := HK1.out; have := HJ6.out; omega⟩, ⟨kR_ HO_7⟩, ⟨bl_⟩⟩
     have c24b0 : (x8_1.toList == ([] : List UInt8)) = false := beq_eq_false_iff_ne.mpr c24
     have c24be : x8_1.toList.isEmpty = false := by rw [← Bool.not_eq_true, List.isEmpty_iff]; exact c24
     have c24b1 : (x8_1.toList != ([] : List UInt8)) = true := bne_iff_ne.mpr c24
     replace H := inc_ H; obtain ⟨c26, H⟩ := H
     have LMc26 := Aside0.mk c26
     clear c26
     obtain ⟨y397, hy_⟩ : ∃ y_ : List ByteArray, y_ = (x7_1 ++ [x8_1]) := ⟨_, rfl⟩
     replace H : (spec_l9Wrap.l0 kj6 l0 l1 a2 y397 (rdOf ByteArray.empty l1 x9_1) (wrap64 (x9_1 + 1))) = some r := ry_
     have Ny397 := Aside0.mk hy_; clear hy_
     have H' := Aside0.mk H; clear H
     have p385 : 0 ≤ (x9_1 : Int) := od_
     have q385 : x9_1 < (l1.length : Int) := od_
     obtain ⟨ad385, e385, hx385_0⟩ := Kd.at_string HR1.out x9_1 p385 q385
     cases e385
     replace hx385_0 := hc_ HB hx385_0
     replace p385 := eq_true p385; replace q385 := eq_true q385
     have p388 : 0 ≤ (x9_1 : Int) := od_
     have q388 : x9_1 < (l1.length : Int) := od_
     obtain ⟨ad388, e388, hx388_0⟩ := Kd.at_string HR1.out x9_1 p388 q388
     obtain rfl : ad385 = ad388 := (by injection e388)
     replace hx388_0 := hc_ HB hx388_0
     replace p388 := eq_true p388; replace q388 := eq_true q388
     go_wp2_with (first | ((with_reducible refine gate_callee (f := 48) rfl ?_); refine gl_ 46 Tryd.func48 #[.slice A0 l0.length c0, .string (rdOf ByteArray.empty l1 x9_1), .int .i64 x10_6] ?_; (with_reducible refine (spec_l9Fit.calls kj6 _ _ l0 (rdOf ByteArray.empty l1 x9_1) x10_6 t389 _ ?side1 ?side2 A13.out).mono ?_); (case side1 => exact cb_ HR0); (case side2 => exact HC0.out); rintro e w27 ⟨rfl, hb⟩; refine ⟨_, rfl, ?_⟩; replace HO_7 := Aside0.mk (Kd.R_below (kR_ HO_7) hb); replace HB := Aside0.mk (below_step (bl_) hb); (try clear hb); (try clear hb2); (try clear hk); (try clear hi)) | ((with_reducible refine gate_builtin (b := .append) (xs := #[.tmp 69, .tmp 71]) rfl ?_); at_builtin; refine Kd.R_append Kd.string (w0 := w) w.heap.size rfl (.tmp 69) (.tmp 71) 32 9 (.string ⟨#[]⟩) 16 rfl Tryd.underlying32 info9 rfl (by decide) (by omega) u7 x7_1 x8_1 [.string x8_1] (fun _ => True) (fun _ => False) rfl rfl ?aP (fun _ hk => hk.elim) ?aF ?aO ?aB ?aS ?aL ?_; (case aP => exact rfl); (case aB => exact (bl_)); (case aF => exact (fun _ _ => trivial)); (case aO => exact (kR_ HO_7)); (case aS => exact (below_size (bl_))); (case aL => have := LMc26.out; omega); intro v398 w28 ho hb hg hat; rw [← Ny397.out] at ho; replace HB := Aside0.mk (hb); have HO399 := Aside0.mk (ho); clear HO_7; clear ho hb hg hat; have p400 : 0 ≤ (x9_1 : Int) := od_; have q400 : x9_1 < (l1.length : Int) := od_; obtain ⟨ad400, e400, hx400_0⟩ := Kd.at_string HR1.out x9_1 p400 q400; obtain rfl : ad385 = ad400 := (by injection e400); replace hx400_0 := hc_ HB hx400_0; replace p400 := eq_true p400; replace q400 := eq_true q400))
     go_roundg kj6
     case measure => have := HK1.out; have := HJ6.out; omega
     case rel => exact ⟨(y397), (rdOf ByteArray.empty l1 x9_1), (wrap64 (x9_1 + 1)), rf_, rf_, H', ⟨by have := HK1.out; have := HJ6.out; omega⟩, ⟨kR_ HO399⟩, ⟨bl_⟩⟩

/-! ### spec_Wrap: function 13 -/
def spec_Wrap.l0 : Nat → List (S42) → List ByteArray → Int → Int → Option (List ByteArray × Bool)
 | 0, _, _, _, _ => none
 | k + 1, x0, x1, x2, x8 => if x8 < (x1.length : Int) then (if 0 ≤ x8 then ((spec_l1Word.f k (rdOf ByteArray.empty x1 x8)).bind fun t402 => (if t402 = true then (spec_Wrap.l0 k x0 x1 x2 (wrap64 (x8 + 1))) else (some ((([] : List ByteArray)), false)))) else (none)) else ((spec_l9Patterns.f k x0).bind fun t406 => (if t406 = true then (if (x1.length : Int) > 40 then (some ((([] : List ByteArray)), false)) else ((spec_l1In.f x2 12 60).bind fun t410 => (if t410 = true then ((spec_l9Wrap.f k x0 x1 x2).bind fun t411 => (some (t411, true))) else (some ((([] : List ByteArray)), false))))) else (some ((([] : List ByteArray)), false))))
def spec_Wrap.f (k : Nat) (l0 : List (S42)) (l1 : List ByteArray) (a2 : Int) : Option (List ByteArray × Bool) := spec_Wrap.l0 k l0 l1 a2 0
theorem spec_Wrap.mono_l : ∀ k, (∀ y0 y1 y2 y3, LeO (spec_Wrap.l0 k y0 y1 y2 y3) (spec_Wrap.l0 (k + 1) y0 y1 y2 y3))
 | 0 => fun _ _ _ _ r h => by simp [spec_Wrap.l0] at h
 | k + 1 => by
  have ih0 := spec_Wrap.mono_l k
  · intro y0 y1 y2 y3
    unfold spec_Wrap.l0
    have m0 := @spec_l1Word.mono
    have m1 := @spec_l9Patterns.mono
    have m2 := @spec_l9Wrap.mono
    exact mn_
theorem spec_Wrap.mono : ∀ a0 a1 a2 k, LeO (spec_Wrap.f k a0 a1 a2) (spec_Wrap.f (k + 1) a0 a1 a2) := by
 intro a0 a1 a2 k
 have ih0 := spec_Wrap.mono_l k
 unfold spec_Wrap.f
 have m0 := @spec_l1Word.mono
 have m1 := @spec_l9Patterns.mono
 have m2 := @spec_l9Wrap.mono
 exact mn_
theorem spec_Wrap.calls (k : Nat) (A0 : Option Addr) (c0 : Nat) (l0 : List (S42)) (A1 : Option Addr) (c1 : Nat) (l1 : List ByteArray) (a2 : Int) (r1 : List ByteArray) (r2 : Bool) (w : World) (hr0 : Kd.C k42 w A0 l0.length l0) (hc0 : l0.length ≤ c0) (hr1 : Kd.C Kd.string w A1 l1.length l1) (hc1 : l1.length ≤ c1) (h : spec_Wrap.f k l0 l1 a2 = some (r1, r2)) :
 Calls Tryd.prog 13 #[.slice A0 l0.length c0, .slice A1 l1.length c1, .int .i64 a2] w fun e w' => ∃ v0_ : Value, e = .returned (.tuple #[v0_, .bool r2]) ∧ Kd.R Kd.string 9 w' w.heap.size (fun _ => True) v0_ r1 ∧ Below w.heap.size w w' := by
 have HR0 := Aside0.mk hr0
 have HC0 := Aside0.mk hc0
 clear hr0 hc0
 have HR1 := Aside0.mk hr1
 have HC1 := Aside0.mk hc1
 clear hr1 hc1
 have HB := Aside0.mk (Below.refl w.heap.size w)
 unfold spec_Wrap.f at h; have H := h; clear h
 have H' := Aside0.mk H; clear H
 go_enter Tryd.func13, Tryd.ntmps13
 go_wp2
 go_loopg [8] k (fun kq v8 w' => ∃ (x8_1 : Int), v8 = .int .i64 x8_1 ∧ Aside0 (spec_Wrap.l0 kq l0 l1 a2 x8_1 = some (r1, r2)) ∧ Aside0 (kq ≤ k) ∧ Aside0 (Below w.heap.size w w'))
 case atStart => exact ⟨(0), rf_, H', ⟨Nat.le_refl _⟩, ⟨bl_⟩⟩
 case round =>
  clear H'
  (try clear c1);(try clear p2)
  obtain ⟨x8_1, rfl, HA, HK1, HB⟩ := hrel
  cases gk with
  | zero => exact absurd HA.out (by simp [spec_Wrap.l0])
  | succ k1 =>
   have H := HA.out
   clear HA
   simp only [spec_Wrap.l0] at H
   replace H := itdd_ H; rcases H with ⟨c4b0, H⟩ | ⟨c4b0, H⟩
   · replace H := ind_ H; obtain ⟨c5b0, H⟩ := H
     replace H := Option.bind_eq_some_iff.mp H
     obtain ⟨t402, A60, H⟩ := H; try dsimp -simprocs only at H
     have A6 := Aside0.mk A60
     clear A60
     replace H := itb_ H; rcases H with ⟨rfl, H⟩ | ⟨rfl, H⟩
     · have H' := Aside0.mk H
       clear H
       have p401 : 0 ≤ (x8_1 : Int) := od_
       have q401 : x8_1 < (l1.length : Int) := od_
       obtain ⟨ad401, e401, hx401_0⟩ := Kd.at_string HR1.out x8_1 p401 q401
       cases e401
       replace hx401_0 := hc_ HB hx401_0
       replace p401 := eq_true p401; replace q401 := eq_true q401
       go_wp2_with (first | ((with_reducible refine gate_callee (f := 18) rfl ?_); refine gl_ 19 Tryd.func18 #[.string (rdOf ByteArray.empty l1 x8_1)] ?_; (with_reducible refine (spec_l1Word.calls k1 (rdOf ByteArray.empty l1 x8_1) true _ A6.out).mono ?_); rintro e w' ⟨rfl, ⟨nd, rfl⟩⟩; refine ⟨_, rfl, ?_⟩))
       go_roundg k1
       case measure => have := HK1.out; omega
       case rel => exact ⟨(wrap64 (x8_1 + 1)), rf_, H', ⟨by have := HK1.out; omega⟩, ⟨bl_⟩⟩
     obtain ⟨y403, hy_⟩ : ∃ y_ : List ByteArray, y_ = (([] : List ByteArray)) := ⟨_, rfl⟩
     replace H : (some (y403, false)) = some (r1, r2) := ry_
     have Ny403 := Aside0.mk hy_; clear hy_
     simp only [Option.some.injEq, Prod.mk.injEq] at H
     obtain ⟨rfl, rfl⟩ := H
     have p401 : 0 ≤ (x8_1 : Int) := od_
     have q401 : x8_1 < (l1.length : Int) := od_
     obtain ⟨ad401, e401, hx401_0⟩ := Kd.at_string HR1.out x8_1 p401 q401
     cases e401
     replace hx401_0 := hc_ HB hx401_0
     replace p401 := eq_true p401; replace q401 := eq_true q401
     go_wp2_with (first | ((with_reducible refine gate_callee (f := 18) rfl ?_); refine gl_ 19 Tryd.func18 #[.string (rdOf ByteArray.empty l1 x8_1)] ?_; (with_reducible refine (spec_l1Word.calls k1 (rdOf ByteArray.empty l1 x8_1) false _ A6.out).mono ?_); rintro e w' ⟨rfl, ⟨nd, rfl⟩⟩; refine ⟨_, rfl, ?_⟩) | ((with_reducible refine gate_dst (N := 21) rfl ?_); (try (refine gate_guard (by rfl) ?_; dsimp only)); refine rl_ Kd.string 9 21 ([] : List ByteArray) [] ?_; intro v404 w8 ho9 hb hg_ hnew_; clear hg_ hnew_; (first | rw [← Ny403.out] at ho9 | (simp only [Int.reduceToNat] at ho9; rw [← Ny403.out] at ho9)); have HO405 := Aside0.mk (Kd.R_lower ho9 (below_size (bl_))); replace HB := Aside0.mk (below_step (bl_) hb); clear hb ho9))
     go_ret2
     exact ⟨_, rfe_, kR_ HO405, bl_⟩
   replace H := Option.bind_eq_some_iff.mp H
   obtain ⟨t406, A100, H⟩ := H; try dsimp -simprocs only at H
   have A10 := Aside0.mk A100
   clear A100
   replace H := iub_ H; rcases H with ⟨rfl, H⟩ | ⟨rfl, H⟩
   · obtain ⟨y417, hy_⟩ : ∃ y_ : List ByteArray, y_ = (([] : List ByteArray)) := ⟨_, rfl⟩
     replace H : (some (y417, false)) = some (r1, r2) := ry_
     have Ny417 := Aside0.mk hy_; clear hy_
     simp only [Option.some.injEq, Prod.mk.injEq] at H
     obtain ⟨rfl, rfl⟩ := H
     go_wp2_with (first | ((with_reducible refine gate_callee (f := 30) rfl ?_); refine gl_ 23 Tryd.func30 #[.slice A0 l0.length c0] ?_; (with_reducible refine (spec_l9Patterns.calls k1 _ _ l0 false _ ?side1 ?side2 A10.out).mono ?_); (case side1 => exact cb_ HR0); (case side2 => exact HC0.out); rintro e w24 ⟨rfl, hb⟩; refine ⟨_, rfl, ?_⟩; replace HB := Aside0.mk (below_step (bl_) hb); (try clear hb); (try clear hb2); (try clear hk); (try clear hi)) | ((with_reducible refine gate_dst (N := 35) rfl ?_); (try (refine gate_guard (by rfl) ?_; dsimp only)); refine rl_ Kd.string 9 35 ([] : List ByteArray) [] ?_; intro v418 w25 ho26 hb hg_ hnew_; clear hg_ hnew_; (first | rw [← Ny417.out] at ho26 | (simp only [Int.reduceToNat] at ho26; rw [← Ny417.out] at ho26)); have HO419 := Aside0.mk (Kd.R_lower ho26 (below_size (bl_))); replace HB := Aside0.mk (below_step (bl_) hb); clear hb ho26))
     go_ret2
     exact ⟨_, rfe_, kR_ HO419, bl_⟩
   replace H := itcc_ H; rcases H with ⟨c12, H⟩ | ⟨c12, H⟩
   · have c12b0 : decide (40 < (l1.length : Int)) = true := decide_eq_true c12
     have c12b1 : decide (40 < l1.length) = true := decide_eq_true (by omega)
     clear c12
     obtain ⟨y407, hy_⟩ : ∃ y_ : List ByteArray, y_ = (([] : List ByteArray)) := ⟨_, rfl⟩
     replace H : (some (y407, false)) = some (r1, r2) := ry_
     have Ny407 := Aside0.mk hy_; clear hy_
     simp only [Option.some.injEq, Prod.mk.injEq] at H
     obtain ⟨rfl, rfl⟩ := H
     go_wp2_with (first | ((with_reducible refine gate_callee (f := 30) rfl ?_); refine gl_ 23 Tryd.func30 #[.slice A0 l0.length c0] ?_; (with_reducible refine (spec_l9Patterns.calls k1 _ _ l0 true _ ?side1 ?side2 A10.out).mono ?_); (case side1 => exact cb_ HR0); (case side2 => exact HC0.out); rintro e w13 ⟨rfl, hb⟩; refine ⟨_, rfl, ?_⟩; replace HB := Aside0.mk (below_step (bl_) hb); (try clear hb); (try clear hb2); (try clear hk); (try clear hi)) | ((with_reducible refine gate_dst (N := 35) rfl ?_); (try (refine gate_guard (by rfl) ?_; dsimp only)); refine rl_ Kd.string 9 35 ([] : List ByteArray) [] ?_; intro v408 w14 ho15 hb hg_ hnew_; clear hg_ hnew_; (first | rw [← Ny407.out] at ho15 | (simp only [Int.reduceToNat] at ho15; rw [← Ny407.out] at ho15)); have HO409 := Aside0.mk (Kd.R_lower ho15 (below_size (bl_))); replace HB := Aside0.mk (below_step (bl_) hb); clear hb ho15))
     go_ret2
     exact ⟨_, rfe_, kR_ HO409, bl_⟩
   have c12b0 : decide (40 < (l1.length : Int)) = false := decide_eq_false c12
   have c12b1 : decide (40 < l1.length) = false := decide_eq_false (by omega)
   clear c12
   replace H := Option.bind_eq_some_iff.mp H
   obtain ⟨t410, A160, H⟩ := H; try dsimp -simprocs only at H
   have A16 := Aside0.mk A160
   clear A160
   replace H := iub_ H; rcases H with ⟨rfl, H⟩ | ⟨rfl, H⟩
   · obtain ⟨y414, hy_⟩ : ∃ y_ : List ByteArray, y_ = (([] : List ByteArray)) := ⟨_, rfl⟩
     replace H : (some (y414, false)) = some (r1, r2) := ry_
     have Ny414 := Aside0.mk hy_; clear hy_
     simp only [Option.some.injEq, Prod.mk.injEq] at H
     obtain ⟨rfl, rfl⟩ := H
     go_wp2_with (first | ((with_reducible refine gate_callee (f := 30) rfl ?_); refine gl_ 23 Tryd.func30 #[.slice A0 l0.length c0] ?_; (with_reducible refine (spec_l9Patterns.calls k1 _ _ l0 true _ ?side1 ?side2 A10.out).mono ?_); (case side1 => exact cb_ HR0); (case side2 => exact HC0.out); rintro e w21 ⟨rfl, hb⟩; refine ⟨_, rfl, ?_⟩; replace HB := Aside0.mk (below_step (bl_) hb); (try clear hb); (try clear hb2); (try clear hk); (try clear hi)) | (go_at_call 31; (with_reducible refine (spec_l1In.calls a2 12 60 false _ A16.out).mono ?_); rintro e w' ⟨rfl, ⟨nd, rfl⟩⟩) | ((with_reducible refine gate_dst (N := 35) rfl ?_); (try (refine gate_guard (by rfl) ?_; dsimp only)); refine rl_ Kd.string 9 35 ([] : List ByteArray) [] ?_; intro v415 w22 ho23 hb hg_ hnew_; clear hg_ hnew_; (first | rw [← Ny414.out] at ho23 | (simp only [Int.reduceToNat] at ho23; rw [← Ny414.out] at ho23)); have HO416 := Aside0.mk (Kd.R_lower ho23 (below_size (bl_))); replace HB := Aside0.mk (below_step (bl_) hb); clear hb ho23))
     go_ret2
     exact ⟨_, rfe_, kR_ HO416, bl_⟩
   replace H := Option.bind_eq_some_iff.mp H
   obtain ⟨t411, A180, H⟩ := H; try dsimp -simprocs only at H
   have A18 := Aside0.mk A180
   clear A180
   simp only [Option.some.injEq, Prod.mk.injEq] at H
   obtain ⟨rfl, rfl⟩ := H
   go_wp2_with (first | ((with_reducible refine gate_callee (f := 30) rfl ?_); refine gl_ 23 Tryd.func30 #[.slice A0 l0.length c0] ?_; (with_reducible refine (spec_l9Patterns.calls k1 _ _ l0 true _ ?side1 ?side2 A10.out).mono ?_); (case side1 => exact cb_ HR0); (case side2 => exact HC0.out); rintro e w19 ⟨rfl, hb⟩; refine ⟨_, rfl, ?_⟩; replace HB := Aside0.mk (below_step (bl_) hb); (try clear hb); (try clear hb2); (try clear hk); (try clear hi)) | (go_at_call 31; (with_reducible refine (spec_l1In.calls a2 12 60 true _ A16.out).mono ?_); rintro e w' ⟨rfl, ⟨nd, rfl⟩⟩) | ((with_reducible refine gate_callee (f := 32) rfl ?_); refine gl_ 39 Tryd.func32 #[.slice A0 l0.length c0, .slice A1 l1.length c1, .int .i64 a2] ?_; (with_reducible refine (spec_l9Wrap.calls k1 _ _ l0 _ _ l1 a2 t411 _ ?side1 ?side2 ?side3 ?side4 A18.out).mono ?_); (case side1 => exact cb_ HR0); (case side2 => exact HC0.out); (case side3 => exact cb_ HR1); (case side4 => exact HC1.out); rintro e w20 ⟨v412, rfl, ho0, hb⟩; refine ⟨_, rfl, ?_⟩; have HO413 := Aside0.mk (Kd.R_lower ho0 (below_size (bl_))); replace HB := Aside0.mk (below_step (bl_) hb); (try clear hb); (try clear hb2); (try clear hk); (try clear hi); (try clear ho0)))
   go_ret2
   exact ⟨_, rfe_, kR_ HO413, bl_⟩

end Go.Proofs.YtlmbmfnimpjgmaaDoor.P
