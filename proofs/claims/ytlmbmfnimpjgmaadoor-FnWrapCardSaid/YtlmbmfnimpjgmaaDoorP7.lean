-- Written by a program of this session (wip/gen/gen.py) out of Lean's print of the loaded program; Lean checks it.
import Derived.Test.YtlmbmfnimpjgmaaDoorP0
import Derived.Test.YtlmbmfnimpjgmaaDoorSq2
import Derived.Test.YtlmbmfnimpjgmaaDoorP5
import Derived.Test.YtlmbmfnimpjgmaaDoorP6
namespace Go.Proofs.YtlmbmfnimpjgmaaDoor.P
open Go.RowKit Go.Proofs.YtlmbmfnimpjgmaaDoorW.PrintWords Go.Proofs.YtlmbmfnimpjgmaaDoorW.PrintLast Go.Proofs.YtlmbmfnimpjgmaaDoorW.PrintMore
attribute [local go_sem] max2_int min2_int max_two min_two max_three min_three max_four min_four IntKind.wrap_u8 IntKind.wrap_u32 w64_256 w64_u32
set_option maxHeartbeats 8000000
set_option maxRecDepth 100000
set_option linter.unusedVariables false
set_option linter.unusedSimpArgs false

/-! ### impl_SplitAt: function 10 -/
mutual
def impl_SplitAt.j0 : Nat → List (S42) → ByteArray → List Int → Bool → Option (List Int)
 | 0, _, _, _, _ => none
 | k + 1, x0, x1, x5, x23 => if x23 = true then (some x5) else (if 0 ≤ (wrap64 ((x1.size : Int) + 1)) then (if (wrap64 ((x1.size : Int) + 1) : Int).toNat ≤ 35184372088832 then (if 1 + x1.size ≤ 9223372036854775807 then (if 1 + x1.size + 1 ≤ 9223372036854775807 then (impl_SplitAt.l0 k x1 x5 (List.replicate (wrap64 ((x1.size : Int) + 1) : Int).toNat 0) (((⟨#[46]⟩ : ByteArray) ++ x1) ++ (⟨#[46]⟩ : ByteArray)) x0 (x0.length : Int) 0) else (none)) else (none)) else (none)) else (none))
def impl_SplitAt.l0 : Nat → ByteArray → List Int → List Int → ByteArray → List (S42) → Int → Int → Option (List Int)
 | 0, _, _, _, _, _, _, _ => none
 | k + 1, x1, x5, x6, x7, x32, x33, x34 => if x34 < x33 then (if 0 ≤ x34 then (if x34 < (x32.length : Int) then (impl_SplitAt.l1 k x1 x5 x6 x7 x32 x33 x34 (x7.size : Int) 0 ((rd_T42 x32 x34).f0) ((rd_T42 x32 x34).f1)) else (none)) else (none)) else (impl_SplitAt.l3 k x1 x5 x6 2)
def impl_SplitAt.l1 : Nat → ByteArray → List Int → List Int → ByteArray → List (S42) → Int → Int → Int → Int → ByteArray → List Int → Option (List Int)
 | 0, _, _, _, _, _, _, _, _, _, _, _ => none
 | k + 1, x1, x5, x6, x7, x32, x33, x34, x39, x40, x317000, x317001 => if x40 < x39 then (if 0 ≤ x40 then (if x40 ≤ (x7.size : Int) then ((strings_HasPrefix.f (x7.extract (x40 : Int).toNat x7.size) x317000).bind fun t317 => (if t317 = true then (impl_SplitAt.l2 k x1 x5 x6 x7 x40 x32 x33 x34 x39 x40 x317001 (x317001.length : Int) 0 x317000 x317001) else (impl_SplitAt.l1 k x1 x5 x6 x7 x32 x33 x34 x39 (wrap64 (x40 + 1)) x317000 x317001))) else (none)) else (none)) else (impl_SplitAt.l0 k x1 x5 x6 x7 x32 x33 (wrap64 (x34 + 1)))
def impl_SplitAt.l2 : Nat → ByteArray → List Int → List Int → ByteArray → Int → List (S42) → Int → Int → Int → Int → List Int → Int → Int → ByteArray → List Int → Option (List Int)
 | 0, _, _, _, _, _, _, _, _, _, _, _, _, _, _, _ => none
 | k + 1, x1, x5, x6, x7, x10, x32, x33, x34, x39, x40, x51, x52, x53, x317000, x317001 => if x53 < x52 then (if 0 ≤ x53 then (if x53 < (x51.length : Int) then ((impl_within.f (wrap64 ((wrap64 (x10 + x53)) - 1)) 0 (x1.size : Int)).bind fun t319 => (if t319 = true then (if 0 ≤ (wrap64 ((wrap64 (x10 + x53)) - 1)) then (if (wrap64 ((wrap64 (x10 + x53)) - 1)) < (x6.length : Int) then (impl_SplitAt.l2 k x1 x5 (x6.set ((wrap64 ((wrap64 (x10 + x53)) - 1)) : Int).toNat (mx (rd x6 (wrap64 ((wrap64 (x10 + x53)) - 1))) (rd x51 x53))) x7 x10 x32 x33 x34 x39 x40 x51 x52 (wrap64 (x53 + 1)) x317000 x317001) else (none)) else (none)) else (impl_SplitAt.l2 k x1 x5 x6 x7 x10 x32 x33 x34 x39 x40 x51 x52 (wrap64 (x53 + 1)) x317000 x317001))) else (none)) else (none)) else (impl_SplitAt.l1 k x1 x5 x6 x7 x32 x33 x34 x39 (wrap64 (x40 + 1)) x317000 x317001)
def impl_SplitAt.l3 : Nat → ByteArray → List Int → List Int → Int → Option (List Int)
 | 0, _, _, _, _ => none
 | k + 1, x1, x5, x6, x14 => if x14 ≤ (wrap64 ((x1.size : Int) - 2)) then (if 0 ≤ x14 then (if x14 < (x6.length : Int) then (if (Int.tmod (rd x6 x14) 2) = 1 then (if x5.length < 17592186044416 then (impl_SplitAt.l3 k x1 (x5 ++ [x14]) x6 (wrap64 (x14 + 1))) else (none)) else (impl_SplitAt.l3 k x1 x5 x6 (wrap64 (x14 + 1)))) else (none)) else (none)) else (some x5)
end
def impl_SplitAt.f (k : Nat) (l0 : List (S42)) (a1 : ByteArray) : Option (List Int) := (some (([] : List Int) : List Int)).bind fun y307 => ((impl_patternsOk.f k l0).bind fun t310 => (if t310 = true then ((impl_WordOk.f k a1).bind fun t311 => (impl_SplitAt.j0 k l0 a1 y307 (!t311))) else (impl_SplitAt.j0 k l0 a1 y307 true)))
theorem impl_SplitAt.mono_l : ∀ k, (∀ y0 y1 y2 y3, LeO (impl_SplitAt.j0 k y0 y1 y2 y3) (impl_SplitAt.j0 (k + 1) y0 y1 y2 y3)) ∧ (∀ y0 y1 y2 y3 y4 y5 y6, LeO (impl_SplitAt.l0 k y0 y1 y2 y3 y4 y5 y6) (impl_SplitAt.l0 (k + 1) y0 y1 y2 y3 y4 y5 y6)) ∧ (∀ y0 y1 y2 y3 y4 y5 y6 y7 y8 y9 y10, LeO (impl_SplitAt.l1 k y0 y1 y2 y3 y4 y5 y6 y7 y8 y9 y10) (impl_SplitAt.l1 (k + 1) y0 y1 y2 y3 y4 y5 y6 y7 y8 y9 y10)) ∧ (∀ y0 y1 y2 y3 y4 y5 y6 y7 y8 y9 y10 y11 y12 y13 y14, LeO (impl_SplitAt.l2 k y0 y1 y2 y3 y4 y5 y6 y7 y8 y9 y10 y11 y12 y13 y14) (impl_SplitAt.l2 (k + 1) y0 y1 y2 y3 y4 y5 y6 y7 y8 y9 y10 y11 y12 y13 y14)) ∧ (∀ y0 y1 y2 y3, LeO (impl_SplitAt.l3 k y0 y1 y2 y3) (impl_SplitAt.l3 (k + 1) y0 y1 y2 y3))
 | 0 => ⟨fun _ _ _ _ r h => by simp [impl_SplitAt.j0] at h, fun _ _ _ _ _ _ _ r h => by simp [impl_SplitAt.l0] at h, fun _ _ _ _ _ _ _ _ _ _ _ r h => by simp [impl_SplitAt.l1] at h, fun _ _ _ _ _ _ _ _ _ _ _ _ _ _ _ r h => by simp [impl_SplitAt.l2] at h, fun _ _ _ _ r h => by simp [impl_SplitAt.l3] at h⟩
 | k + 1 => by
  obtain ⟨ih0, ih1, ih2, ih3, ih4⟩ := impl_SplitAt.mono_l k
  refine ⟨?_, ?_, ?_, ?_, ?_⟩
  · intro y0 y1 y2 y3
    unfold impl_SplitAt.j0
    have m0 := @impl_WordOk.mono
    have m1 := @impl_patternsOk.mono
    exact mn_
  · intro y0 y1 y2 y3 y4 y5 y6
    unfold impl_SplitAt.l0
    have m0 := @impl_WordOk.mono
    have m1 := @impl_patternsOk.mono
    exact mn_
  · intro y0 y1 y2 y3 y4 y5 y6 y7 y8 y9 y10
    unfold impl_SplitAt.l1
    have m0 := @impl_WordOk.mono
    have m1 := @impl_patternsOk.mono
    exact mn_
  · intro y0 y1 y2 y3 y4 y5 y6 y7 y8 y9 y10 y11 y12 y13 y14
    unfold impl_SplitAt.l2
    have m0 := @impl_WordOk.mono
    have m1 := @impl_patternsOk.mono
    exact mn_
  · intro y0 y1 y2 y3
    unfold impl_SplitAt.l3
    have m0 := @impl_WordOk.mono
    have m1 := @impl_patternsOk.mono
    exact mn_
theorem impl_SplitAt.mono : ∀ a0 a1 k, LeO (impl_SplitAt.f k a0 a1) (impl_SplitAt.f (k + 1) a0 a1) := by
 intro a0 a1 k
 obtain ⟨ih0, ih1, ih2, ih3, ih4⟩ := impl_SplitAt.mono_l k
 unfold impl_SplitAt.f
 have m0 := @impl_WordOk.mono
 have m1 := @impl_patternsOk.mono
 exact mn_
theorem impl_SplitAt.calls (k : Nat) (A0 : Option Addr) (c0 : Nat) (l0 : List (S42)) (a1 : ByteArray) (r : List Int) (w : World) (hr0 : Kd.C k42 w A0 l0.length l0) (hc0 : l0.length ≤ c0) (h : impl_SplitAt.f k l0 a1 = some r) :
 Calls Tryd.prog 10 #[.slice A0 l0.length c0, .string a1] w fun e w' => ∃ v0_ : Value, e = .returned (v0_) ∧ Kd.R (Kd.int .i64) 3 w' w.heap.size (fun _ => True) v0_ r ∧ Below w.heap.size w w' := by
 have hu42 := Tryd.underlying42
 have HR0 := Aside0.mk hr0
 have HC0 := Aside0.mk hc0
 clear hr0 hc0
 have HB := Aside0.mk (Below.refl w.heap.size w)
 unfold impl_SplitAt.f at h; have H := h; clear h
 obtain ⟨y307, hy_⟩ : ∃ y_ : List Int, y_ = (([] : List Int)) := ⟨_, rfl⟩
 replace H : ((impl_patternsOk.f k l0).bind fun t310 => (if t310 = true then ((impl_WordOk.f k a1).bind fun t311 => (impl_SplitAt.j0 k l0 a1 y307 (!t311))) else (impl_SplitAt.j0 k l0 a1 y307 true))) = some r := ry_
 have Ny307 := Aside0.mk hy_; clear hy_
 have HC3 := Aside0.mk H
 clear H
 go_enter Tryd.func10, Tryd.ntmps10
 go_upto_region 2 with (first | ((with_reducible refine gate_dst (N := 15) rfl ?_); refine rl_ (Kd.int .i64) 3 15 ([] : List Int) [] ?_; intro v308 w4 ho5 hb hg_ hnew_; clear hg_ hnew_; (first | rw [← Ny307.out] at ho5 | (simp only [Int.reduceToNat] at ho5; rw [← Ny307.out] at ho5)); have HO309 := Aside0.mk (Kd.R_lower ho5 (below_size (bl_))); replace HB := Aside0.mk (below_step (bl_) hb); clear hb ho5))
 repeat (go_quiet (first | ((with_reducible refine gate_dst (N := 15) rfl ?_); refine rl_ (Kd.int .i64) 3 15 ([] : List Int) [] ?_; intro v308 w4 ho5 hb hg_ hnew_; clear hg_ hnew_; (first | rw [← Ny307.out] at ho5 | (simp only [Int.reduceToNat] at ho5; rw [← Ny307.out] at ho5)); have HO309 := Aside0.mk (Kd.R_lower ho5 (below_size (bl_))); replace HB := Aside0.mk (below_step (bl_) hb); clear hb ho5)); go_upto_region 2 with (first | ((with_reducible refine gate_dst (N := 15) rfl ?_); refine rl_ (Kd.int .i64) 3 15 ([] : List Int) [] ?_; intro v308 w4 ho5 hb hg_ hnew_; clear hg_ hnew_; (first | rw [← Ny307.out] at ho5 | (simp only [Int.reduceToNat] at ho5; rw [← Ny307.out] at ho5)); have HO309 := Aside0.mk (Kd.R_lower ho5 (below_size (bl_))); replace HB := Aside0.mk (below_step (bl_) hb); clear hb ho5)))
 (try simp only [Act.put, List.setIfInBounds_toArray, List.set_cons_zero, List.set_cons_succ])
 go_cut [23] (fun v23 wc => ∃ (kq : Nat) (x23_2 : Bool), v23 = .bool x23_2 ∧ Aside0 (impl_SplitAt.j0 kq l0 a1 y307 x23_2 = some r) ∧ Aside0 (kq ≤ k) ∧ Aside0 (Kd.R (Kd.int .i64) 3 wc w.heap.size (fun _ => True) v308 y307) ∧ Aside0 (Below w.heap.size w wc))
 case first =>
  have H := HC3.out
  clear HC3
  replace H := Option.bind_eq_some_iff.mp H
  obtain ⟨t310, A60, H⟩ := H; try dsimp -simprocs only at H
  have A6 := Aside0.mk A60
  clear A60
  replace H := iub_ H; rcases H with ⟨rfl, H⟩ | ⟨rfl, H⟩
  · have H' := Aside0.mk H
    clear H
    go_wp2_with (first | (go_at_call 20; (with_reducible refine (impl_patternsOk.calls k _ _ l0 false _ ?side1 ?side2 A6.out).mono ?_); (case side1 => exact cb_ HR0); (case side2 => exact HC0.out); rintro e w10 ⟨rfl, hb⟩; replace HO309 := Aside0.mk (Kd.R_below (kR_ HO309) hb); replace HB := Aside0.mk (below_step (bl_) hb); (try clear hb); (try clear hb2); (try clear hk); (try clear hi)))
    repeat (go_quiet (first | (go_at_call 20; (with_reducible refine (impl_patternsOk.calls k _ _ l0 false _ ?side1 ?side2 A6.out).mono ?_); (case side1 => exact cb_ HR0); (case side2 => exact HC0.out); rintro e w10 ⟨rfl, hb⟩; replace HO309 := Aside0.mk (Kd.R_below (kR_ HO309) hb); replace HB := Aside0.mk (below_step (bl_) hb); (try clear hb); (try clear hb2); (try clear hk); (try clear hi))); try go_wp2_with (first | (go_at_call 20; (with_reducible refine (impl_patternsOk.calls k _ _ l0 false _ ?side1 ?side2 A6.out).mono ?_); (case side1 => exact cb_ HR0); (case side2 => exact HC0.out); rintro e w10 ⟨rfl, hb⟩; replace HO309 := Aside0.mk (Kd.R_below (kR_ HO309) hb); replace HB := Aside0.mk (below_step (bl_) hb); (try clear hb); (try clear hb2); (try clear hk); (try clear hi))))
    go_meet
    case rel => exact ⟨_, (true), rf_, H', ⟨by first | omega | exact Nat.le_refl _⟩, ⟨kR_ HO309⟩, ⟨bl_⟩⟩
  replace H := Option.bind_eq_some_iff.mp H
  obtain ⟨t311, A80, H⟩ := H; try dsimp -simprocs only at H
  have A8 := Aside0.mk A80
  clear A80
  have H' := Aside0.mk H; clear H
  go_wp2_with (first | (go_at_call 20; (with_reducible refine (impl_patternsOk.calls k _ _ l0 true _ ?side1 ?side2 A6.out).mono ?_); (case side1 => exact cb_ HR0); (case side2 => exact HC0.out); rintro e w9 ⟨rfl, hb⟩; replace HO309 := Aside0.mk (Kd.R_below (kR_ HO309) hb); replace HB := Aside0.mk (below_step (bl_) hb); (try clear hb); (try clear hb2); (try clear hk); (try clear hi)) | (go_at_call 21; (with_reducible refine (impl_WordOk.calls k a1 t311 _ A8.out).mono ?_); rintro e w' ⟨rfl, ⟨nd, rfl⟩⟩; (try first | exact ⟨rfl, _, World.drewN_drewN _ _ _⟩ | exact ⟨rfl, _, Eq.trans (World.drewN_drewN _ _ _) (congrArg (World.drewN _) (Nat.add_assoc _ _ _))⟩)))
  repeat (go_quiet (first | (go_at_call 20; (with_reducible refine (impl_patternsOk.calls k _ _ l0 true _ ?side1 ?side2 A6.out).mono ?_); (case side1 => exact cb_ HR0); (case side2 => exact HC0.out); rintro e w9 ⟨rfl, hb⟩; replace HO309 := Aside0.mk (Kd.R_below (kR_ HO309) hb); replace HB := Aside0.mk (below_step (bl_) hb); (try clear hb); (try clear hb2); (try clear hk); (try clear hi)) | (go_at_call 21; (with_reducible refine (impl_WordOk.calls k a1 t311 _ A8.out).mono ?_); rintro e w' ⟨rfl, ⟨nd, rfl⟩⟩; (try first | exact ⟨rfl, _, World.drewN_drewN _ _ _⟩ | exact ⟨rfl, _, Eq.trans (World.drewN_drewN _ _ _) (congrArg (World.drewN _) (Nat.add_assoc _ _ _))⟩))); try go_wp2_with (first | (go_at_call 20; (with_reducible refine (impl_patternsOk.calls k _ _ l0 true _ ?side1 ?side2 A6.out).mono ?_); (case side1 => exact cb_ HR0); (case side2 => exact HC0.out); rintro e w9 ⟨rfl, hb⟩; replace HO309 := Aside0.mk (Kd.R_below (kR_ HO309) hb); replace HB := Aside0.mk (below_step (bl_) hb); (try clear hb); (try clear hb2); (try clear hk); (try clear hi)) | (go_at_call 21; (with_reducible refine (impl_WordOk.calls k a1 t311 _ A8.out).mono ?_); rintro e w' ⟨rfl, ⟨nd, rfl⟩⟩; (try first | exact ⟨rfl, _, World.drewN_drewN _ _ _⟩ | exact ⟨rfl, _, Eq.trans (World.drewN_drewN _ _ _) (congrArg (World.drewN _) (Nat.add_assoc _ _ _))⟩))))
  go_meet
  case rel => exact ⟨_, (!t311), rf_, H', ⟨by first | omega | exact Nat.le_refl _⟩, ⟨kR_ HO309⟩, ⟨bl_⟩⟩
 case rest =>
  clear HC3
  (try clear c1);(try clear p2);(try clear c7);(try clear c10)
  obtain ⟨kq, x23_2, rfl, HA, HJ2, HO_5, HB⟩ := hcut
  cases kq with
  | zero => exact absurd HA.out (by simp [impl_SplitAt.j0])
  | succ kj2 =>
   have H := HA.out
   clear HA
   simp only [impl_SplitAt.j0] at H
   replace H := itb_ H; rcases H with ⟨rfl, H⟩ | ⟨rfl, H⟩
   · obtain rfl := Option.some.inj H
     go_wp2
     repeat (go_quiet (fail); try go_wp2)
     go_ret
     exact ⟨_, rfe_, kR_ HO_5, bl_⟩
   obtain ⟨ji12, hji12⟩ : ∃ j_ : Int, (wrap64 ((a1.size : Int) + 1)) = j_ := ⟨_, rfl⟩
   replace H : (if 0 ≤ (ji12) then (if (ji12 : Int).toNat ≤ 35184372088832 then (if 1 + a1.size ≤ 9223372036854775807 then (if 1 + a1.size + 1 ≤ 9223372036854775807 then (impl_SplitAt.l0 kj2 a1 y307 (List.replicate (ji12 : Int).toNat 0) (((⟨#[46]⟩ : ByteArray) ++ a1) ++ (⟨#[46]⟩ : ByteArray)) l0 (l0.length : Int) 0) else (none)) else (none)) else (none)) else (none)) = some r := by first | (rw [hji12] at H; exact H) | (simp only [hji12] at H ⊢; exact H)
   have hji12w : (IntKind.i64.wrap ((a1.size : Int) + 1)) = ji12 := (i64_w _).trans hji12
   replace H := inc_ H; obtain ⟨c13, H⟩ := H
   have c13b0 := eq_true c13
   have c13b1 : decide (0 ≤ (ji12)) = true := decide_eq_true c13
   clear c13
   replace H := inc_ H; obtain ⟨c14, H⟩ := H
   have c14b0 := eq_true c14
   have c14b1 : decide ((ji12 : Int).toNat ≤ 35184372088832) = true := decide_eq_true c14
   clear c14
   obtain ⟨y312, hy_⟩ : ∃ y_ : List Int, y_ = (List.replicate (ji12 : Int).toNat 0) := ⟨_, rfl⟩
   replace H : (if 1 + a1.size ≤ 9223372036854775807 then (if 1 + a1.size + 1 ≤ 9223372036854775807 then (impl_SplitAt.l0 kj2 a1 y307 y312 (((⟨#[46]⟩ : ByteArray) ++ a1) ++ (⟨#[46]⟩ : ByteArray)) l0 (l0.length : Int) 0) else (none)) else (none)) = some r := ry_
   have Ny312 := Aside0.mk hy_; clear hy_
   replace H := inc_ H; obtain ⟨c15, H⟩ := H
   have c15b0 := eq_true c15
   have c15b1 : decide (1 + a1.size ≤ 9223372036854775807) = true := decide_eq_true c15
   try have c15b2 : (9223372036854775807 < 1 + a1.size) = False := eq_false (Nat.not_lt.2 c15)
   replace H := inc_ H; obtain ⟨c16, H⟩ := H
   have c16b0 := eq_true c16
   have c16b1 : decide (1 + a1.size + 1 ≤ 9223372036854775807) = true := decide_eq_true c16
   try have c16b2 : (9223372036854775807 < 1 + a1.size + 1) = False := eq_false (Nat.not_lt.2 c16)
   have H' := Aside0.mk H; clear H
   go_wp2_with (first | ((with_reducible refine gate_dst (N := 28) rfl ?_); refine Kd.R_make (Kd.int .i64) _ 3 rfl (N := 28) rfl 29 _ _ rfl ji12 rfl rfl Tryd.underlying29 (.int .i64 0) 8 info3 rfl (by decide) (by omega) 0 (ok := fun _ => True) (okp := fun _ => True) rfl (fun _ hk => hk) trivial (od_) (Nat.le_trans (Nat.mul_le_mul_right _ (od_ : ji12.toNat ≤ 35184372088832)) (by omega)) (Below.refl _ _) (Nat.le_refl _) ?_; intro v313 w17 ho18 hb hg_ hnew_; clear hg_ hnew_; (first | rw [← Ny312.out] at ho18 | (simp only [Int.reduceToNat] at ho18; rw [← Ny312.out] at ho18)); have HO314 := Aside0.mk (Kd.R_lower (Kd.R_new' ho18 (Kd.R_lt (kR_ HO_5))) (below_size (bl_))); replace HO_5 := Aside0.mk (Kd.R_elder' (kR_ HO_5) (Kd.R_base ho18) hb); replace HB := Aside0.mk (below_step (bl_) hb); clear hb ho18))
   repeat (go_quiet (first | ((with_reducible refine gate_dst (N := 28) rfl ?_); refine Kd.R_make (Kd.int .i64) _ 3 rfl (N := 28) rfl 29 _ _ rfl ji12 rfl rfl Tryd.underlying29 (.int .i64 0) 8 info3 rfl (by decide) (by omega) 0 (ok := fun _ => True) (okp := fun _ => True) rfl (fun _ hk => hk) trivial (od_) (Nat.le_trans (Nat.mul_le_mul_right _ (od_ : ji12.toNat ≤ 35184372088832)) (by omega)) (Below.refl _ _) (Nat.le_refl _) ?_; intro v313 w17 ho18 hb hg_ hnew_; clear hg_ hnew_; (first | rw [← Ny312.out] at ho18 | (simp only [Int.reduceToNat] at ho18; rw [← Ny312.out] at ho18)); have HO314 := Aside0.mk (Kd.R_lower (Kd.R_new' ho18 (Kd.R_lt (kR_ HO_5))) (below_size (bl_))); replace HO_5 := Aside0.mk (Kd.R_elder' (kR_ HO_5) (Kd.R_base ho18) hb); replace HB := Aside0.mk (below_step (bl_) hb); clear hb ho18)); try go_wp2_with (first | ((with_reducible refine gate_dst (N := 28) rfl ?_); refine Kd.R_make (Kd.int .i64) _ 3 rfl (N := 28) rfl 29 _ _ rfl ji12 rfl rfl Tryd.underlying29 (.int .i64 0) 8 info3 rfl (by decide) (by omega) 0 (ok := fun _ => True) (okp := fun _ => True) rfl (fun _ hk => hk) trivial (od_) (Nat.le_trans (Nat.mul_le_mul_right _ (od_ : ji12.toNat ≤ 35184372088832)) (by omega)) (Below.refl _ _) (Nat.le_refl _) ?_; intro v313 w17 ho18 hb hg_ hnew_; clear hg_ hnew_; (first | rw [← Ny312.out] at ho18 | (simp only [Int.reduceToNat] at ho18; rw [← Ny312.out] at ho18)); have HO314 := Aside0.mk (Kd.R_lower (Kd.R_new' ho18 (Kd.R_lt (kR_ HO_5))) (below_size (bl_))); replace HO_5 := Aside0.mk (Kd.R_elder' (kR_ HO_5) (Kd.R_base ho18) hb); replace HB := Aside0.mk (below_step (bl_) hb); clear hb ho18)))
   generalize hsn0_ : ((⟨#[46]⟩ : ByteArray) ++ a1) ++ (⟨#[46]⟩ : ByteArray) = sn0_ at H' ⊢
   go_loopg [34] kj2 (fun kq v34 w' => ∃ (x6_2 : List Int) (x34_2 : Int), v34 = .int .i64 x34_2 ∧ Aside0 (impl_SplitAt.l0 kq a1 y307 x6_2 sn0_ l0 (l0.length : Int) x34_2 = some r) ∧ Aside0 (kq ≤ kj2) ∧ Aside0 (Kd.R (Kd.int .i64) 3 w' w.heap.size (fun k_ => some k_ ≠ (v313 : Value).ownBlock) v308 y307) ∧ Aside0 (Kd.R (Kd.int .i64) 3 w' w.heap.size (fun k_ => some k_ ≠ (v308 : Value).ownBlock) v313 x6_2) ∧ Aside0 (Below w.heap.size w w'))
   case atStart => exact ⟨(y312), (0), rf_, H', ⟨Nat.le_refl _⟩, ⟨by (with_reducible repeat (first | apply Kd.R_alloc | apply Kd.R_drewN | apply Kd.R_drew)); exact Kd.R_mono HO_5.out (fun _ hk => hk.2)⟩, ⟨by (with_reducible repeat (first | apply Kd.R_alloc | apply Kd.R_drewN | apply Kd.R_drew)); exact Kd.R_mono HO314.out (fun _ hk => hk.2)⟩, ⟨bl_⟩⟩
   case round =>
    clear H'
    (try clear c1);(try clear p2);(try clear p6);(try clear c7);(try clear c10);(try clear c11);(try clear c13);(try clear c13b0);(try clear c13b1);(try clear c14);(try clear c14b0);(try clear c14b1);(try clear c15);(try clear c15b0);(try clear c15b1);(try clear c15b2);(try clear c16);(try clear c16b0);(try clear c16b1);(try clear c16b2);(try clear p2)
    obtain ⟨x6_2, x34_2, rfl, HA, HK2, HO_5, HO_6, HB⟩ := hrel
    cases gk with
    | zero => exact absurd HA.out (by simp [impl_SplitAt.l0])
    | succ k2 =>
     have H := HA.out
     clear HA
     simp only [impl_SplitAt.l0] at H
     replace H := iucc_ H; rcases H with ⟨c19, H⟩ | ⟨c19, H⟩
     · have c19b0 : decide (x34_2 < (l0.length : Int)) = false := decide_eq_false c19
       clear c19
       have H' := Aside0.mk H; clear H
       go_wp2
       repeat (go_quiet (fail); try go_wp2)
       go_loopg [5, 14] k2 (fun kq v5 v14 w' => ∃ (x5_3 : List Int) (x14_3 : Int), v14 = .int .i64 x14_3 ∧ Aside0 (impl_SplitAt.l3 kq a1 x5_3 x6_2 x14_3 = some r) ∧ Aside0 (kq ≤ k2) ∧ Aside0 (Kd.R (Kd.int .i64) 3 w' w.heap.size (fun k_ => some k_ ≠ (v313 : Value).ownBlock) v5 x5_3) ∧ Aside0 (Kd.R (Kd.int .i64) 3 w' w.heap.size (fun k_ => some k_ ≠ (v5 : Value).ownBlock) v313 x6_2) ∧ Aside0 (Below w.heap.size w w'))
       case atStart => exact ⟨(y307), (2), rf_, H', ⟨Nat.le_refl _⟩, ⟨kR_ HO_5⟩, ⟨kR_ HO_6⟩, ⟨bl_⟩⟩
       case round =>
        clear H'
        (try clear c1);(try clear c2);(try clear p2);(try clear c3);(try clear p3);(try clear q3);(try clear hx3);(try clear hf3);(try clear p6);(try clear c7);(try clear c10);(try clear c11);(try clear c13);(try clear c13b0);(try clear c13b1);(try clear c14);(try clear c14b0);(try clear c14b1);(try clear c15);(try clear c15b0);(try clear c15b1);(try clear c15b2);(try clear c16);(try clear c16b0);(try clear c16b1);(try clear c16b2);(try clear c19);(try clear c19b0);(try clear c20);(try clear c20b0);(try clear c21);(try clear c21b0);(try clear c24);(try clear c24b0);(try clear c25);(try clear c25b0);(try clear c25b1);(try clear c26);(try clear c26b0);(try clear c26b1);(try clear c28);(try clear c30);(try clear c30b0);(try clear c31);(try clear c31b0);(try clear p31);(try clear q31);(try clear hx31);(try clear c32);(try clear c32b0);(try clear p32);(try clear q32);(try clear hx32);(try clear c34);(try clear c36);(try clear c36b0);(try clear c37);(try clear c37b0);(try clear p39);(try clear q39);(try clear hx39);(try clear hf39);(try clear hcz23_0);(try clear hcz23_1);(try clear hcz29_0);(try clear hcz29_1);(try clear hcz43_0);(try clear hcz43_1);(try clear hfz23_0);(try clear hfz23_1);(try clear hfz29_0);(try clear hfz29_1);(try clear hfz43_0);(try clear hfz43_1);(try clear hx315_0);(try clear hx315_1);(try clear hx318_0);(try clear hx320_0);(try clear hx39_0);(try clear p2);(try clear p3);(try clear p315);(try clear p318);(try clear p320);(try clear p39);(try clear p6);(try clear q3);(try clear q315);(try clear q318);(try clear q320);(try clear q39)
        obtain ⟨x5_3, x14_3, rfl, HA, HK3, HO_5, HO_6, HB⟩ := hrel
        cases gk with
        | zero => exact absurd HA.out (by simp [impl_SplitAt.l3])
        | succ k3 =>
         have H := HA.out
         clear HA
         simp only [impl_SplitAt.l3] at H
         replace H := iudd_ H; rcases H with ⟨c44b0, H⟩ | ⟨c44b0, H⟩
         · obtain rfl := Option.some.inj H
           go_wp2
           repeat (go_quiet (fail); try go_wp2)
           go_ret
           exact ⟨_, by first | rfl | (simp [errW_none, errW_some] <;> rfl) | (simp only [← hji12]; first | rfl | (simp [errW_none, errW_some] <;> rfl)) | (simp [*, errW_none, errW_some] <;> rfl), by (with_reducible repeat (first | apply Kd.R_alloc | apply Kd.R_drewN | apply Kd.R_drew)); exact Kd.R_mono HO_5.out (fun _ hk => trivial), bl_⟩
         replace H := ind_ H; obtain ⟨c45b0, H⟩ := H
         replace H := ind_ H; obtain ⟨c46b0, H⟩ := H
         replace H := iucc_ H; rcases H with ⟨c47, H⟩ | ⟨c47, H⟩
         · have c47b0 : ((Int.tmod (rd x6_2 x14_3) 2) == 1) = false := beq_eq_false_iff_ne.mpr c47
           have c47b1 : ((Int.tmod (rd x6_2 x14_3) 2) != 1) = true := bne_iff_ne.mpr c47
           have H' := Aside0.mk H; clear H
           obtain ⟨Ao51, co51, eo51⟩ := Kd.R_slice HO_6.out
           subst eo51
           have p322 : 0 ≤ (x14_3 : Int) := od_
           have q322 : x14_3 < (x6_2.length : Int) := od_
           obtain ⟨ad322, e322, hx322_0⟩ := Kd.at_int (Kd.R_reads' HO_6.out).2.2 x14_3 p322 q322
           cases e322
           replace p322 := eq_true p322; replace q322 := eq_true q322
           go_wp2
           repeat (go_quiet (fail); try go_wp2)
           go_roundg k3
           case measure => have := HJ2.out; have := HK2.out; have := HK3.out; omega
           case rel => exact ⟨(x5_3), (wrap64 (x14_3 + 1)), rf_, H', ⟨by have := HJ2.out; have := HK2.out; have := HK3.out; omega⟩, ⟨kR_ HO_5⟩, ⟨kR_ HO_6⟩, ⟨bl_⟩⟩
         have c47b0 : ((Int.tmod (rd x6_2 x14_3) 2) == 1) = true := beq_iff_eq.mpr c47
         have c47b1 : ((Int.tmod (rd x6_2 x14_3) 2) != 1) = false := bne_eq_false_iff_eq.mpr c47
         clear c47
         replace H := inc_ H; obtain ⟨c48, H⟩ := H
         have LMc48 := Aside0.mk c48
         clear c48
         obtain ⟨y323, hy_⟩ : ∃ y_ : List Int, y_ = (x5_3 ++ [x14_3]) := ⟨_, rfl⟩
         replace H : (impl_SplitAt.l3 k3 a1 y323 x6_2 (wrap64 (x14_3 + 1))) = some r := ry_
         have Ny323 := Aside0.mk hy_; clear hy_
         have H' := Aside0.mk H; clear H
         obtain ⟨Ao49, co49, eo49⟩ := Kd.R_slice HO_6.out
         subst eo49
         have p322 : 0 ≤ (x14_3 : Int) := od_
         have q322 : x14_3 < (x6_2.length : Int) := od_
         obtain ⟨ad322, e322, hx322_0⟩ := Kd.at_int (Kd.R_reads' HO_6.out).2.2 x14_3 p322 q322
         cases e322
         replace p322 := eq_true p322; replace q322 := eq_true q322
         go_wp2_with (first | ((with_reducible refine gate_builtin (b := .append) (xs := #[.tmp 91, .tmp 93]) rfl ?_); at_builtin; refine Kd.R_append (Kd.int .i64) (w0 := w) w.heap.size rfl (.tmp 91) (.tmp 93) 29 3 (.int .i64 0) 8 rfl Tryd.underlying29 info3 rfl (by decide) (by omega) u5 x5_3 x14_3 [.int .i64 x14_3] (fun k_ => some k_ ≠ (.slice (some ad322) x6_2.length co49 : Value).ownBlock) (fun _ => False) rfl rfl ?aP (fun _ hk => hk.elim) ?aF ?aO ?aB ?aS ?aL ?_; (case aP => exact rfl); (case aB => exact (bl_)); (case aF => exact (fun k_ hk => Kd.fresh' (Kd.R_lt (kR_ HO_6)) k_ hk)); (case aO => exact (kR_ HO_5)); (case aS => exact (below_size (bl_))); (case aL => have := LMc48.out; omega); intro v324 w50 ho hb hg hat; rw [← Ny323.out] at ho; replace HO_6 := Aside0.mk (Kd.R_after (ok := (fun _ => True)) (by (with_reducible repeat (first | apply Kd.R_alloc | apply Kd.R_drewN | apply Kd.R_drew)); exact Kd.R_mono HO_6.out (fun _ hk => ⟨trivial, hk⟩)) hg hat); replace HB := Aside0.mk (hb); have HO325 := Aside0.mk (ho); clear HO_5; clear ho hb hg hat))
         repeat (go_quiet (first | ((with_reducible refine gate_builtin (b := .append) (xs := #[.tmp 91, .tmp 93]) rfl ?_); at_builtin; refine Kd.R_append (Kd.int .i64) (w0 := w) w.heap.size rfl (.tmp 91) (.tmp 93) 29 3 (.int .i64 0) 8 rfl Tryd.underlying29 info3 rfl (by decide) (by omega) u5 x5_3 x14_3 [.int .i64 x14_3] (fun k_ => some k_ ≠ (.slice (some ad322) x6_2.length co49 : Value).ownBlock) (fun _ => False) rfl rfl ?aP (fun _ hk => hk.elim) ?aF ?aO ?aB ?aS ?aL ?_; (case aP => exact rfl); (case aB => exact (bl_)); (case aF => exact (fun k_ hk => Kd.fresh' (Kd.R_lt (kR_ HO_6)) k_ hk)); (case aO => exact (kR_ HO_5)); (case aS => exact (below_size (bl_))); (case aL => have := LMc48.out; omega); intro v324 w50 ho hb hg hat; rw [← Ny323.out] at ho; replace HO_6 := Aside0.mk (Kd.R_after (ok := (fun _ => True)) (by (with_reducible repeat (first | apply Kd.R_alloc | apply Kd.R_drewN | apply Kd.R_drew)); exact Kd.R_mono HO_6.out (fun _ hk => ⟨trivial, hk⟩)) hg hat); replace HB := Aside0.mk (hb); have HO325 := Aside0.mk (ho); clear HO_5; clear ho hb hg hat)); try go_wp2_with (first | ((with_reducible refine gate_builtin (b := .append) (xs := #[.tmp 91, .tmp 93]) rfl ?_); at_builtin; refine Kd.R_append (Kd.int .i64) (w0 := w) w.heap.size rfl (.tmp 91) (.tmp 93) 29 3 (.int .i64 0) 8 rfl Tryd.underlying29 info3 rfl (by decide) (by omega) u5 x5_3 x14_3 [.int .i64 x14_3] (fun k_ => some k_ ≠ (.slice (some ad322) x6_2.length co49 : Value).ownBlock) (fun _ => False) rfl rfl ?aP (fun _ hk => hk.elim) ?aF ?aO ?aB ?aS ?aL ?_; (case aP => exact rfl); (case aB => exact (bl_)); (case aF => exact (fun k_ hk => Kd.fresh' (Kd.R_lt (kR_ HO_6)) k_ hk)); (case aO => exact (kR_ HO_5)); (case aS => exact (below_size (bl_))); (case aL => have := LMc48.out; omega); intro v324 w50 ho hb hg hat; rw [← Ny323.out] at ho; replace HO_6 := Aside0.mk (Kd.R_after (ok := (fun _ => True)) (by (with_reducible repeat (first | apply Kd.R_alloc | apply Kd.R_drewN | apply Kd.R_drew)); exact Kd.R_mono HO_6.out (fun _ hk => ⟨trivial, hk⟩)) hg hat); replace HB := Aside0.mk (hb); have HO325 := Aside0.mk (ho); clear HO_5; clear ho hb hg hat)))
         go_roundg k3
         case measure => have := HJ2.out; have := HK2.out; have := HK3.out; omega
         case rel => exact ⟨(y323), (wrap64 (x14_3 + 1)), rf_, H', ⟨by have := HJ2.out; have := HK2.out; have := HK3.out; omega⟩, ⟨kR_ HO325⟩, ⟨by (with_reducible repeat (first | apply Kd.R_alloc | apply Kd.R_drewN | apply Kd.R_drew)); exact Kd.R_mono HO_6.out (fun _ hk => hk.2)⟩, ⟨bl_⟩⟩
     have c19b0 : decide (x34_2 < (l0.length : Int)) = true := decide_eq_true c19
     clear c19
     replace H := inc_ H; obtain ⟨c20, H⟩ := H
     have c20b0 : decide (0 ≤ x34_2) = true := decide_eq_true c20
     clear c20
     replace H := inc_ H; obtain ⟨c21, H⟩ := H
     have c21b0 : decide (x34_2 < (l0.length : Int)) = true := decide_eq_true c21
     clear c21
     have H' := Aside0.mk H; clear H
     have p315 : 0 ≤ (x34_2 : Int) := od_
     have q315 : x34_2 < (l0.length : Int) := od_
     obtain ⟨ad315, A315_1, c315_1, e315, hx315_0, hx315_1, hl315_1, hi315_1⟩ := at_T42 HR0.out x34_2 p315 q315
     cases e315
     replace hx315_0 := hc_ HB hx315_0
     replace hx315_1 := hc_ HB hx315_1
     have HR315_1 := Aside0.mk hi315_1
     have HC315_1 := Aside0.mk hl315_1
     clear hi315_1 hl315_1
     replace p315 := eq_true p315; replace q315 := eq_true q315
     go_wp2_with (first | ((with_reducible refine gate_dst (N := 9) rfl ?_); refine be_ 9 42 #[.string (⟨#[]⟩ : ByteArray), .slice none 0 0] ?_; intro gb316 hg w22 hbox hb; replace HO_5 := Aside0.mk (Kd.R_below (kR_ HO_5) hb); replace HO_6 := Aside0.mk (Kd.R_below (kR_ HO_6) hb); have BK316 := Aside0.mk (hbox); have GW316 := Aside0.mk ((gs_ hg : w.heap.size ≤ gb316)); have GE316 := Aside0.mk ((gs_ hg : w.heap.size ≤ gb316)); replace HB := Aside0.mk (below_step (bl_) hb); clear hb hbox hg; have hcz23_0 := bc0_ BK316; have hcz23_1 := bc1_ BK316; have hfz23_0 := blk_frozen BK316.out 0; have hfz23_1 := blk_frozen BK316.out 1))
     repeat (go_quiet (first | ((with_reducible refine gate_dst (N := 9) rfl ?_); refine be_ 9 42 #[.string (⟨#[]⟩ : ByteArray), .slice none 0 0] ?_; intro gb316 hg w22 hbox hb; replace HO_5 := Aside0.mk (Kd.R_below (kR_ HO_5) hb); replace HO_6 := Aside0.mk (Kd.R_below (kR_ HO_6) hb); have BK316 := Aside0.mk (hbox); have GW316 := Aside0.mk ((gs_ hg : w.heap.size ≤ gb316)); have GE316 := Aside0.mk ((gs_ hg : w.heap.size ≤ gb316)); replace HB := Aside0.mk (below_step (bl_) hb); clear hb hbox hg; have hcz23_0 := bc0_ BK316; have hcz23_1 := bc1_ BK316; have hfz23_0 := blk_frozen BK316.out 0; have hfz23_1 := blk_frozen BK316.out 1)); try go_wp2_with (first | ((with_reducible refine gate_dst (N := 9) rfl ?_); refine be_ 9 42 #[.string (⟨#[]⟩ : ByteArray), .slice none 0 0] ?_; intro gb316 hg w22 hbox hb; replace HO_5 := Aside0.mk (Kd.R_below (kR_ HO_5) hb); replace HO_6 := Aside0.mk (Kd.R_below (kR_ HO_6) hb); have BK316 := Aside0.mk (hbox); have GW316 := Aside0.mk ((gs_ hg : w.heap.size ≤ gb316)); have GE316 := Aside0.mk ((gs_ hg : w.heap.size ≤ gb316)); replace HB := Aside0.mk (below_step (bl_) hb); clear hb hbox hg; have hcz23_0 := bc0_ BK316; have hcz23_1 := bc1_ BK316; have hfz23_0 := blk_frozen BK316.out 0; have hfz23_1 := blk_frozen BK316.out 1)))
     go_loopg [40] k2 (fun kq v40 w' => ∃ (x6_3 : List Int) (x40_3 : Int), v40 = .int .i64 x40_3 ∧ Aside0 (impl_SplitAt.l1 kq a1 y307 x6_3 sn0_ l0 (l0.length : Int) x34_2 (sn0_.size : Int) x40_3 ((rd_T42 l0 x34_2).f0) ((rd_T42 l0 x34_2).f1) = some r) ∧ Aside0 (kq ≤ k2) ∧ Aside0 (Kd.R (Kd.int .i64) 3 w' w.heap.size (fun k_ => some k_ ≠ (v313 : Value).ownBlock) v308 y307) ∧ Aside0 (Kd.R (Kd.int .i64) 3 w' w.heap.size (fun k_ => some k_ ≠ (v308 : Value).ownBlock) v313 x6_3) ∧ Aside0 (w'.heap[gb316]? = some (.cells #[.string ((rd_T42 l0 x34_2).f0), (.slice A315_1 ((rd_T42 l0 x34_2).f1).length c315_1)] 42 (0, 0))) ∧ Aside0 (Below w.heap.size w w'))
     case atStart => exact ⟨(x6_2), (0), rf_, H', ⟨Nat.le_refl _⟩, ⟨by (with_reducible repeat (first | apply Kd.R_alloc | apply Kd.R_drewN | apply Kd.R_drew)); exact Kd.R_mono (Kd.R_far (p := ⟨gb316, 1, none⟩) (Kd.R_far (p := ⟨gb316, 0, none⟩) (Kd.R_types HO_5.out BK316.out (by decide)) (fun _ hk => hk.2) (.string ((rd_T42 l0 x34_2).f0))) (fun _ hk => hk.2) (.slice A315_1 ((rd_T42 l0 x34_2).f1).length c315_1)) (fun _ hk => hk.1)⟩, ⟨by (with_reducible repeat (first | apply Kd.R_alloc | apply Kd.R_drewN | apply Kd.R_drew)); exact Kd.R_mono (Kd.R_far (p := ⟨gb316, 1, none⟩) (Kd.R_far (p := ⟨gb316, 0, none⟩) (Kd.R_types HO_6.out BK316.out (by decide)) (fun _ hk => hk.2) (.string ((rd_T42 l0 x34_2).f0))) (fun _ hk => hk.2) (.slice A315_1 ((rd_T42 l0 x34_2).f1).length c315_1)) (fun _ hk => hk.1)⟩, ⟨by (with_reducible repeat (first | refine blk_drewN ?_ _ | refine blk_drew ?_ | refine blk_alloc ?_ _)); refine blk_put (cs := #[.string ((rd_T42 l0 x34_2).f0), .slice none 0 0]) ?_ 1 _ rfl; (with_reducible repeat (first | refine blk_drewN ?_ _ | refine blk_drew ?_ | refine blk_alloc ?_ _)); refine blk_put (cs := #[.string (⟨#[]⟩ : ByteArray), .slice none 0 0]) ?_ 0 _ rfl; (with_reducible repeat (first | refine blk_drewN ?_ _ | refine blk_drew ?_ | refine blk_alloc ?_ _)); exact BK316.out⟩, ⟨bl_⟩⟩
     case round =>
      clear H'
      (try clear c1);(try clear c2);(try clear p2);(try clear c3);(try clear p3);(try clear q3);(try clear hx3);(try clear p6);(try clear c7);(try clear c10);(try clear c11);(try clear c13);(try clear c13b0);(try clear c13b1);(try clear c14);(try clear c14b0);(try clear c14b1);(try clear c15);(try clear c15b0);(try clear c15b1);(try clear c15b2);(try clear c16);(try clear c16b0);(try clear c16b1);(try clear c16b2);(try clear c19);(try clear c19b0);(try clear c20);(try clear c20b0);(try clear c21);(try clear c21b0);(try clear hcz23_0);(try clear hcz23_1);(try clear hfz23_0);(try clear hfz23_1);(try clear hx315_0);(try clear hx315_1);(try clear p2);(try clear p315);(try clear p6);(try clear q315)
      obtain ⟨x6_3, x40_3, rfl, HA, HK3, HO_5, HO_6, BK316, HB⟩ := hrel
      cases gk with
      | zero => exact absurd HA.out (by simp [impl_SplitAt.l1])
      | succ k3 =>
       have H := HA.out
       clear HA
       simp only [impl_SplitAt.l1] at H
       replace H := iucd_ H; rcases H with ⟨c24b0, H⟩ | ⟨c24, H⟩
       · have H' := Aside0.mk H
         clear H
         go_wp2
         repeat (go_quiet (fail); try go_wp2)
         go_roundg k3
         case measure => have := HJ2.out; have := HK2.out; have := HK3.out; omega
         case rel => exact ⟨(x6_3), (wrap64 (x34_2 + 1)), rf_, H', ⟨by have := HJ2.out; have := HK2.out; have := HK3.out; omega⟩, ⟨kR_ HO_5⟩, ⟨kR_ HO_6⟩, ⟨bl_⟩⟩
       have c24b0 : decide (x40_3 < (sn0_.size : Int)) = true := decide_eq_true c24
       clear c24
       replace H := inc_ H; obtain ⟨c25, H⟩ := H
       have c25b0 := eq_true c25
       have c25b1 : decide (0 ≤ x40_3) = true := decide_eq_true c25
       clear c25
       replace H := inc_ H; obtain ⟨c26, H⟩ := H
       have c26b0 := eq_true c26
       have c26b1 : decide (x40_3 ≤ (sn0_.size : Int)) = true := decide_eq_true c26
       replace H := Option.bind_eq_some_iff.mp H
       obtain ⟨t317, A270, H⟩ := H; try dsimp -simprocs only at H
       have A27 := Aside0.mk A270
       clear A270
       replace H := iub_ H; rcases H with ⟨rfl, H⟩ | ⟨rfl, H⟩
       · have H' := Aside0.mk H
         clear H
         have hcz43_0 := bc0_ BK316
         have hcz43_1 := bc1_ BK316
         have hfz43_0 := blk_frozen BK316.out 0
         have hfz43_1 := blk_frozen BK316.out 1
         go_wp2_with (first | (go_at_call 22; (with_reducible refine (strings_HasPrefix.calls (sn0_.extract (x40_3 : Int).toNat sn0_.size) ((rd_T42 l0 x34_2).f0) false _ A27.out).mono ?_); rintro e w' ⟨rfl, ⟨nd, rfl⟩⟩; (try first | exact ⟨rfl, _, World.drewN_drewN _ _ _⟩ | exact ⟨rfl, _, Eq.trans (World.drewN_drewN _ _ _) (congrArg (World.drewN _) (Nat.add_assoc _ _ _))⟩)))
         repeat (go_quiet (first | (go_at_call 22; (with_reducible refine (strings_HasPrefix.calls (sn0_.extract (x40_3 : Int).toNat sn0_.size) ((rd_T42 l0 x34_2).f0) false _ A27.out).mono ?_); rintro e w' ⟨rfl, ⟨nd, rfl⟩⟩; (try first | exact ⟨rfl, _, World.drewN_drewN _ _ _⟩ | exact ⟨rfl, _, Eq.trans (World.drewN_drewN _ _ _) (congrArg (World.drewN _) (Nat.add_assoc _ _ _))⟩))); try go_wp2_with (first | (go_at_call 22; (with_reducible refine (strings_HasPrefix.calls (sn0_.extract (x40_3 : Int).toNat sn0_.size) ((rd_T42 l0 x34_2).f0) false _ A27.out).mono ?_); rintro e w' ⟨rfl, ⟨nd, rfl⟩⟩; (try first | exact ⟨rfl, _, World.drewN_drewN _ _ _⟩ | exact ⟨rfl, _, Eq.trans (World.drewN_drewN _ _ _) (congrArg (World.drewN _) (Nat.add_assoc _ _ _))⟩))))
         go_roundg k3
         case measure => have := HJ2.out; have := HK2.out; have := HK3.out; omega
         case rel => exact ⟨(x6_3), (wrap64 (x40_3 + 1)), rf_, H', ⟨by have := HJ2.out; have := HK2.out; have := HK3.out; omega⟩, ⟨kR_ HO_5⟩, ⟨kR_ HO_6⟩, ⟨by (with_reducible repeat (first | refine blk_drewN ?_ _ | refine blk_drew ?_ | refine blk_alloc ?_ _)); exact BK316.out⟩, ⟨bl_⟩⟩
       have H' := Aside0.mk H; clear H
       have hcz29_0 := bc0_ BK316
       have hcz29_1 := bc1_ BK316
       have hfz29_0 := blk_frozen BK316.out 0
       have hfz29_1 := blk_frozen BK316.out 1
       go_wp2_with (first | (go_at_call 22; (with_reducible refine (strings_HasPrefix.calls (sn0_.extract (x40_3 : Int).toNat sn0_.size) ((rd_T42 l0 x34_2).f0) true _ A27.out).mono ?_); rintro e w' ⟨rfl, ⟨nd, rfl⟩⟩; (try first | exact ⟨rfl, _, World.drewN_drewN _ _ _⟩ | exact ⟨rfl, _, Eq.trans (World.drewN_drewN _ _ _) (congrArg (World.drewN _) (Nat.add_assoc _ _ _))⟩)))
       repeat (go_quiet (first | (go_at_call 22; (with_reducible refine (strings_HasPrefix.calls (sn0_.extract (x40_3 : Int).toNat sn0_.size) ((rd_T42 l0 x34_2).f0) true _ A27.out).mono ?_); rintro e w' ⟨rfl, ⟨nd, rfl⟩⟩; (try first | exact ⟨rfl, _, World.drewN_drewN _ _ _⟩ | exact ⟨rfl, _, Eq.trans (World.drewN_drewN _ _ _) (congrArg (World.drewN _) (Nat.add_assoc _ _ _))⟩))); try go_wp2_with (first | (go_at_call 22; (with_reducible refine (strings_HasPrefix.calls (sn0_.extract (x40_3 : Int).toNat sn0_.size) ((rd_T42 l0 x34_2).f0) true _ A27.out).mono ?_); rintro e w' ⟨rfl, ⟨nd, rfl⟩⟩; (try first | exact ⟨rfl, _, World.drewN_drewN _ _ _⟩ | exact ⟨rfl, _, Eq.trans (World.drewN_drewN _ _ _) (congrArg (World.drewN _) (Nat.add_assoc _ _ _))⟩))))
       go_loopg [53] k3 (fun kq v53 w' => ∃ (x6_4 : List Int) (x53_4 : Int), v53 = .int .i64 x53_4 ∧ Aside0 (impl_SplitAt.l2 kq a1 y307 x6_4 sn0_ x40_3 l0 (l0.length : Int) x34_2 (sn0_.size : Int) x40_3 ((rd_T42 l0 x34_2).f1) (((rd_T42 l0 x34_2).f1).length : Int) x53_4 ((rd_T42 l0 x34_2).f0) ((rd_T42 l0 x34_2).f1) = some r) ∧ Aside0 (kq ≤ k3) ∧ Aside0 (Kd.R (Kd.int .i64) 3 w' w.heap.size (fun k_ => some k_ ≠ (v313 : Value).ownBlock) v308 y307) ∧ Aside0 (Kd.R (Kd.int .i64) 3 w' w.heap.size (fun k_ => some k_ ≠ (v308 : Value).ownBlock) v313 x6_4) ∧ Aside0 (w'.heap[gb316]? = some (.cells #[.string ((rd_T42 l0 x34_2).f0), (.slice A315_1 ((rd_T42 l0 x34_2).f1).length c315_1)] 42 (0, 0))) ∧ Aside0 (Below w.heap.size w w'))
       case atStart => exact ⟨(x6_3), (0), rf_, H', ⟨Nat.le_refl _⟩, ⟨kR_ HO_5⟩, ⟨kR_ HO_6⟩, ⟨by (with_reducible repeat (first | refine blk_drewN ?_ _ | refine blk_drew ?_ | refine blk_alloc ?_ _)); exact BK316.out⟩, ⟨bl_⟩⟩
       case round =>
        clear H'
        (try clear c1);(try clear c2);(try clear p2);(try clear c3);(try clear p3);(try clear q3);(try clear hx3);(try clear p6);(try clear c7);(try clear c10);(try clear c11);(try clear c13);(try clear c13b0);(try clear c13b1);(try clear c14);(try clear c14b0);(try clear c14b1);(try clear c15);(try clear c15b0);(try clear c15b1);(try clear c15b2);(try clear c16);(try clear c16b0);(try clear c16b1);(try clear c16b2);(try clear c19);(try clear c19b0);(try clear c20);(try clear c20b0);(try clear c21);(try clear c21b0);(try clear c24);(try clear c24b0);(try clear c25);(try clear c25b0);(try clear c25b1);(try clear c26);(try clear c26b0);(try clear c26b1);(try clear c28);(try clear hcz23_0);(try clear hcz23_1);(try clear hcz29_0);(try clear hcz29_1);(try clear hfz23_0);(try clear hfz23_1);(try clear hfz29_0);(try clear hfz29_1);(try clear hx315_0);(try clear hx315_1);(try clear p2);(try clear p3);(try clear p315);(try clear p6);(try clear q3);(try clear q315)
        obtain ⟨x6_4, x53_4, rfl, HA, HK4, HO_5, HO_6, BK316, HB⟩ := hrel
        cases gk with
        | zero => exact absurd HA.out (by simp [impl_SplitAt.l2])
        | succ k4 =>
         have H := HA.out
         clear HA
         simp only [impl_SplitAt.l2] at H
         replace H := iudd_ H; rcases H with ⟨c30b0, H⟩ | ⟨c30b0, H⟩
         · have H' := Aside0.mk H
           clear H
           go_wp2
           repeat (go_quiet (fail); try go_wp2)
           go_roundg k4
           case measure => have := HJ2.out; have := HK2.out; have := HK3.out; have := HK4.out; omega
           case rel => exact ⟨(x6_4), (wrap64 (x40_3 + 1)), rf_, H', ⟨by have := HJ2.out; have := HK2.out; have := HK3.out; have := HK4.out; omega⟩, ⟨kR_ HO_5⟩, ⟨kR_ HO_6⟩, ⟨by (with_reducible repeat (first | refine blk_drewN ?_ _ | refine blk_drew ?_ | refine blk_alloc ?_ _)); exact BK316.out⟩, ⟨bl_⟩⟩
         replace H := ind_ H; obtain ⟨c31b0, H⟩ := H
         replace H := ind_ H; obtain ⟨c32b0, H⟩ := H
         replace H := Option.bind_eq_some_iff.mp H
         obtain ⟨t319, A330, H⟩ := H; try dsimp -simprocs only at H
         have A33 := Aside0.mk A330
         clear A330
         replace H := iub_ H; rcases H with ⟨rfl, H⟩ | ⟨rfl, H⟩
         · have H' := Aside0.mk H
           clear H
           have p318 : 0 ≤ (x53_4 : Int) := od_
           have q318 : x53_4 < (((rd_T42 l0 x34_2).f1).length : Int) := od_
           obtain ⟨ad318, e318, hx318_0⟩ := Kd.at_int HR315_1.out x53_4 p318 q318
           cases e318
           replace hx318_0 := hc_ HB hx318_0
           replace p318 := eq_true p318; replace q318 := eq_true q318
           go_wp2_with (first | (go_at_call 23; (with_reducible refine (impl_within.calls (wrap64 ((wrap64 (x40_3 + x53_4)) - 1)) 0 (a1.size : Int) false _ A33.out).mono ?_); rintro e w' ⟨rfl, ⟨nd, rfl⟩⟩; (try first | exact ⟨rfl, _, World.drewN_drewN _ _ _⟩ | exact ⟨rfl, _, Eq.trans (World.drewN_drewN _ _ _) (congrArg (World.drewN _) (Nat.add_assoc _ _ _))⟩)))
           repeat (go_quiet (first | (go_at_call 23; (with_reducible refine (impl_within.calls (wrap64 ((wrap64 (x40_3 + x53_4)) - 1)) 0 (a1.size : Int) false _ A33.out).mono ?_); rintro e w' ⟨rfl, ⟨nd, rfl⟩⟩; (try first | exact ⟨rfl, _, World.drewN_drewN _ _ _⟩ | exact ⟨rfl, _, Eq.trans (World.drewN_drewN _ _ _) (congrArg (World.drewN _) (Nat.add_assoc _ _ _))⟩))); try go_wp2_with (first | (go_at_call 23; (with_reducible refine (impl_within.calls (wrap64 ((wrap64 (x40_3 + x53_4)) - 1)) 0 (a1.size : Int) false _ A33.out).mono ?_); rintro e w' ⟨rfl, ⟨nd, rfl⟩⟩; (try first | exact ⟨rfl, _, World.drewN_drewN _ _ _⟩ | exact ⟨rfl, _, Eq.trans (World.drewN_drewN _ _ _) (congrArg (World.drewN _) (Nat.add_assoc _ _ _))⟩))))
           go_roundg k4
           case measure => have := HJ2.out; have := HK2.out; have := HK3.out; have := HK4.out; omega
           case rel => exact ⟨(x6_4), (wrap64 (x53_4 + 1)), rf_, H', ⟨by have := HJ2.out; have := HK2.out; have := HK3.out; have := HK4.out; omega⟩, ⟨kR_ HO_5⟩, ⟨kR_ HO_6⟩, ⟨by (with_reducible repeat (first | refine blk_drewN ?_ _ | refine blk_drew ?_ | refine blk_alloc ?_ _)); exact BK316.out⟩, ⟨bl_⟩⟩
         obtain ⟨ji35, hji35⟩ : ∃ j_ : Int, (wrap64 ((wrap64 (x40_3 + x53_4)) - 1)) = j_ := ⟨_, rfl⟩
         replace H : (if 0 ≤ (ji35) then (if (ji35) < (x6_4.length : Int) then (impl_SplitAt.l2 k4 a1 y307 (x6_4.set ((ji35) : Int).toNat (mx (rd x6_4 (ji35)) (rd ((rd_T42 l0 x34_2).f1) x53_4))) sn0_ x40_3 l0 (l0.length : Int) x34_2 (sn0_.size : Int) x40_3 ((rd_T42 l0 x34_2).f1) (((rd_T42 l0 x34_2).f1).length : Int) (wrap64 (x53_4 + 1)) ((rd_T42 l0 x34_2).f0) ((rd_T42 l0 x34_2).f1)) else (none)) else (none)) = some r := by first | (rw [hji35] at H; exact H) | (simp only [hji35] at H ⊢; exact H)
         (try rw [hji35] at A33)
         have hji35w : (IntKind.i64.wrap ((wrap64 (x40_3 + x53_4)) - 1)) = ji35 := (i64_w _).trans hji35
         replace H := ind_ H; obtain ⟨c36b0, H⟩ := H
         replace H := ind_ H; obtain ⟨c37b0, H⟩ := H
         obtain ⟨ji38, hji38⟩ : ∃ j_ : Int, (mx (rd x6_4 (ji35)) (rd ((rd_T42 l0 x34_2).f1) x53_4)) = j_ := ⟨_, rfl⟩
         replace H : (impl_SplitAt.l2 k4 a1 y307 (x6_4.set ((ji35) : Int).toNat (ji38)) sn0_ x40_3 l0 (l0.length : Int) x34_2 (sn0_.size : Int) x40_3 ((rd_T42 l0 x34_2).f1) (((rd_T42 l0 x34_2).f1).length : Int) (wrap64 (x53_4 + 1)) ((rd_T42 l0 x34_2).f0) ((rd_T42 l0 x34_2).f1)) = some r := by first | (rw [hji38] at H; exact H) | (simp only [hji38] at H ⊢; exact H)
         (try rw [hji38] at A33)
         have hji38_ : (if (rd x6_4 (ji35)) < (rd ((rd_T42 l0 x34_2).f1) x53_4) then (rd ((rd_T42 l0 x34_2).f1) x53_4) else (rd x6_4 (ji35))) = ji38 := hji38
         obtain ⟨y321, hy_⟩ : ∃ y_ : List Int, y_ = (x6_4.set ((ji35) : Int).toNat (ji38)) := ⟨_, rfl⟩
         replace H : (impl_SplitAt.l2 k4 a1 y307 y321 sn0_ x40_3 l0 (l0.length : Int) x34_2 (sn0_.size : Int) x40_3 ((rd_T42 l0 x34_2).f1) (((rd_T42 l0 x34_2).f1).length : Int) (wrap64 (x53_4 + 1)) ((rd_T42 l0 x34_2).f0) ((rd_T42 l0 x34_2).f1)) = some r := ry_
         have Ny321 := Aside0.mk hy_; clear hy_
         have H' := Aside0.mk H; clear H
         have p318 : 0 ≤ (x53_4 : Int) := od_
         have q318 : x53_4 < (((rd_T42 l0 x34_2).f1).length : Int) := od_
         obtain ⟨ad318, e318, hx318_0⟩ := Kd.at_int HR315_1.out x53_4 p318 q318
         cases e318
         replace hx318_0 := hc_ HB hx318_0
         replace p318 := eq_true p318; replace q318 := eq_true q318
         go_wp2_with (first | (go_at_call 23; (with_reducible refine (impl_within.calls ji35 0 (a1.size : Int) true _ A33.out).mono ?_); rintro e w' ⟨rfl, ⟨nd, rfl⟩⟩; (try first | exact ⟨rfl, _, World.drewN_drewN _ _ _⟩ | exact ⟨rfl, _, Eq.trans (World.drewN_drewN _ _ _) (congrArg (World.drewN _) (Nat.add_assoc _ _ _))⟩); obtain ⟨Ao40, co40, eo40⟩ := Kd.R_slice HO_6.out; subst eo40; have p320 : 0 ≤ ((ji35) : Int) := od_; have q320 : (ji35) < (x6_4.length : Int) := od_; obtain ⟨ad320, e320, hx320_0⟩ := Kd.at_int (Kd.R_reads' HO_6.out).2.2 (ji35) p320 q320; cases e320; replace p320 := eq_true p320; replace q320 := eq_true q320; have p39 : 0 ≤ ((ji35) : Int) := od_; have q39 : ((ji35) : Int) < ((x6_4.length : Int) : Int) := od_; obtain ⟨go39, co39, eo39, gb39, gl39, cl39, HG39⟩ := Kd.R_form HO_6.out (by omega); (first | cases eo39 | (injection eo39 with ea_ en_ ec_; (first | subst ea_ | (injection ea_ with ea_; subst ea_)); subst ec_; clear en_)); have GB39 := Aside0.mk gb39; have GG39 := Aside0.mk HG39; clear gb39 gl39 HG39; (first | simp only [add_plain] at hx320_0 | skip); obtain ⟨hx39_0, hf39_0⟩ := Kd.R_celln 0 HO_6.out ((ji35) : Int) p39 q39; replace p39 := eq_true p39; replace q39 := eq_true q39; obtain ⟨hy41_, hz41_⟩ := Kd.R_celln 0 HO_6.out ((ji35) : Int) (od_) (od_); have HP41 := Kd.R_putg HO_6.out ((ji35) : Int) ji38) | ((with_reducible refine gate_store (t := 3) (p := 74) rfl ?_); (try (rw [drewN_self wr]; generalize hq_ : World.drewN wr _ = wr; have n0_ := Aside0.mk (Kd.R_at hq_ HO_5.out); have n1_ := Aside0.mk (Kd.R_at hq_ HO_6.out); have n2_ := Aside0.mk (blk_at hq_ BK316.out); have n3_ := Aside0.mk (below_at hq_ HB.out); clear hq_ HO_5 HO_6 BK316 HB; have HO_5 := n0_; have HO_6 := n1_; have BK316 := n2_; have HB := n3_; clear n0_ n1_ n2_ n3_; (try (obtain ⟨hy41_, hz41_⟩ := Kd.R_celln 0 HO_6.out ((ji35) : Int) (od_) (od_))); (try (have HP41 := Kd.R_putg HO_6.out ((ji35) : Int) ji38)))); refine store_event (t := 3) (p := 74) (v := ?vo_w42) (w1 := (wr.setCell ⟨go39, ((ji35) : Int).toNat, none⟩ (.int .i64 ji38))) ?hg ?ho ?hn ?hr ?_; (case ho => rfl); (case hg => rfl); (case hn => rfl); (case hr => first | (go_simp; done) | (go_simp; rfl)); intro w42 hw; have hg : wr.grownBy w42 (some go39) := (by rw [hw]; exact HP41.2); have hp_ : Kd.R (Kd.int .i64) 3 w42 w.heap.size (fun k_ => some k_ ≠ (v308 : Value).ownBlock) (.slice (some ⟨go39, 0, none⟩) x6_4.length co40) y321 := (by rw [hw, Ny321.out]; exact HP41.1); clear HP41; replace HO_5 := Aside0.mk (Kd.R_after (v := (.slice (some ⟨go39, 0, none⟩) x6_4.length co40)) (v1 := (.slice (some ⟨go39, 0, none⟩) x6_4.length co40)) (ok := (fun _ => True)) (by (with_reducible repeat (first | apply Kd.R_alloc | apply Kd.R_drewN | apply Kd.R_drew)); exact Kd.R_mono HO_5.out (fun _ hk => ⟨trivial, hk⟩)) hg (.inl rfl)); replace BK316 := Aside0.mk (blk_grown (bk_ BK316) hg (Kd.R_ne HO_6.out BK316.out (by decide))); replace HO_6 := Aside0.mk (hp_); replace HB := Aside0.mk ((by rw [hw]; exact below_set (HB.out) GB39.out : Below w.heap.size w w42)); clear hg hw hp_))
         repeat (go_quiet (first | (go_at_call 23; (with_reducible refine (impl_within.calls ji35 0 (a1.size : Int) true _ A33.out).mono ?_); rintro e w' ⟨rfl, ⟨nd, rfl⟩⟩; (try first | exact ⟨rfl, _, World.drewN_drewN _ _ _⟩ | exact ⟨rfl, _, Eq.trans (World.drewN_drewN _ _ _) (congrArg (World.drewN _) (Nat.add_assoc _ _ _))⟩); obtain ⟨Ao40, co40, eo40⟩ := Kd.R_slice HO_6.out; subst eo40; have p320 : 0 ≤ ((ji35) : Int) := od_; have q320 : (ji35) < (x6_4.length : Int) := od_; obtain ⟨ad320, e320, hx320_0⟩ := Kd.at_int (Kd.R_reads' HO_6.out).2.2 (ji35) p320 q320; cases e320; replace p320 := eq_true p320; replace q320 := eq_true q320; have p39 : 0 ≤ ((ji35) : Int) := od_; have q39 : ((ji35) : Int) < ((x6_4.length : Int) : Int) := od_; obtain ⟨go39, co39, eo39, gb39, gl39, cl39, HG39⟩ := Kd.R_form HO_6.out (by omega); (first | cases eo39 | (injection eo39 with ea_ en_ ec_; (first | subst ea_ | (injection ea_ with ea_; subst ea_)); subst ec_; clear en_)); have GB39 := Aside0.mk gb39; have GG39 := Aside0.mk HG39; clear gb39 gl39 HG39; (first | simp only [add_plain] at hx320_0 | skip); obtain ⟨hx39_0, hf39_0⟩ := Kd.R_celln 0 HO_6.out ((ji35) : Int) p39 q39; replace p39 := eq_true p39; replace q39 := eq_true q39; obtain ⟨hy41_, hz41_⟩ := Kd.R_celln 0 HO_6.out ((ji35) : Int) (od_) (od_); have HP41 := Kd.R_putg HO_6.out ((ji35) : Int) ji38) | ((with_reducible refine gate_store (t := 3) (p := 74) rfl ?_); (try (rw [drewN_self wr]; generalize hq_ : World.drewN wr _ = wr; have n0_ := Aside0.mk (Kd.R_at hq_ HO_5.out); have n1_ := Aside0.mk (Kd.R_at hq_ HO_6.out); have n2_ := Aside0.mk (blk_at hq_ BK316.out); have n3_ := Aside0.mk (below_at hq_ HB.out); clear hq_ HO_5 HO_6 BK316 HB; have HO_5 := n0_; have HO_6 := n1_; have BK316 := n2_; have HB := n3_; clear n0_ n1_ n2_ n3_; (try (obtain ⟨hy41_, hz41_⟩ := Kd.R_celln 0 HO_6.out ((ji35) : Int) (od_) (od_))); (try (have HP41 := Kd.R_putg HO_6.out ((ji35) : Int) ji38)))); refine store_event (t := 3) (p := 74) (v := ?vo_w42) (w1 := (wr.setCell ⟨go39, ((ji35) : Int).toNat, none⟩ (.int .i64 ji38))) ?hg ?ho ?hn ?hr ?_; (case ho => rfl); (case hg => rfl); (case hn => rfl); (case hr => first | (go_simp; done) | (go_simp; rfl)); intro w42 hw; have hg : wr.grownBy w42 (some go39) := (by rw [hw]; exact HP41.2); have hp_ : Kd.R (Kd.int .i64) 3 w42 w.heap.size (fun k_ => some k_ ≠ (v308 : Value).ownBlock) (.slice (some ⟨go39, 0, none⟩) x6_4.length co40) y321 := (by rw [hw, Ny321.out]; exact HP41.1); clear HP41; replace HO_5 := Aside0.mk (Kd.R_after (v := (.slice (some ⟨go39, 0, none⟩) x6_4.length co40)) (v1 := (.slice (some ⟨go39, 0, none⟩) x6_4.length co40)) (ok := (fun _ => True)) (by (with_reducible repeat (first | apply Kd.R_alloc | apply Kd.R_drewN | apply Kd.R_drew)); exact Kd.R_mono HO_5.out (fun _ hk => ⟨trivial, hk⟩)) hg (.inl rfl)); replace BK316 := Aside0.mk (blk_grown (bk_ BK316) hg (Kd.R_ne HO_6.out BK316.out (by decide))); replace HO_6 := Aside0.mk (hp_); replace HB := Aside0.mk ((by rw [hw]; exact below_set (HB.out) GB39.out : Below w.heap.size w w42)); clear hg hw hp_)); try go_wp2_with (first | (go_at_call 23; (with_reducible refine (impl_within.calls ji35 0 (a1.size : Int) true _ A33.out).mono ?_); rintro e w' ⟨rfl, ⟨nd, rfl⟩⟩; (try first | exact ⟨rfl, _, World.drewN_drewN _ _ _⟩ | exact ⟨rfl, _, Eq.trans (World.drewN_drewN _ _ _) (congrArg (World.drewN _) (Nat.add_assoc _ _ _))⟩); obtain ⟨Ao40, co40, eo40⟩ := Kd.R_slice HO_6.out; subst eo40; have p320 : 0 ≤ ((ji35) : Int) := od_; have q320 : (ji35) < (x6_4.length : Int) := od_; obtain ⟨ad320, e320, hx320_0⟩ := Kd.at_int (Kd.R_reads' HO_6.out).2.2 (ji35) p320 q320; cases e320; replace p320 := eq_true p320; replace q320 := eq_true q320; have p39 : 0 ≤ ((ji35) : Int) := od_; have q39 : ((ji35) : Int) < ((x6_4.length : Int) : Int) := od_; obtain ⟨go39, co39, eo39, gb39, gl39, cl39, HG39⟩ := Kd.R_form HO_6.out (by omega); (first | cases eo39 | (injection eo39 with ea_ en_ ec_; (first | subst ea_ | (injection ea_ with ea_; subst ea_)); subst ec_; clear en_)); have GB39 := Aside0.mk gb39; have GG39 := Aside0.mk HG39; clear gb39 gl39 HG39; (first | simp only [add_plain] at hx320_0 | skip); obtain ⟨hx39_0, hf39_0⟩ := Kd.R_celln 0 HO_6.out ((ji35) : Int) p39 q39; replace p39 := eq_true p39; replace q39 := eq_true q39; obtain ⟨hy41_, hz41_⟩ := Kd.R_celln 0 HO_6.out ((ji35) : Int) (od_) (od_); have HP41 := Kd.R_putg HO_6.out ((ji35) : Int) ji38) | ((with_reducible refine gate_store (t := 3) (p := 74) rfl ?_); (try (rw [drewN_self wr]; generalize hq_ : World.drewN wr _ = wr; have n0_ := Aside0.mk (Kd.R_at hq_ HO_5.out); have n1_ := Aside0.mk (Kd.R_at hq_ HO_6.out); have n2_ := Aside0.mk (blk_at hq_ BK316.out); have n3_ := Aside0.mk (below_at hq_ HB.out); clear hq_ HO_5 HO_6 BK316 HB; have HO_5 := n0_; have HO_6 := n1_; have BK316 := n2_; have HB := n3_; clear n0_ n1_ n2_ n3_; (try (obtain ⟨hy41_, hz41_⟩ := Kd.R_celln 0 HO_6.out ((ji35) : Int) (od_) (od_))); (try (have HP41 := Kd.R_putg HO_6.out ((ji35) : Int) ji38)))); refine store_event (t := 3) (p := 74) (v := ?vo_w42) (w1 := (wr.setCell ⟨go39, ((ji35) : Int).toNat, none⟩ (.int .i64 ji38))) ?hg ?ho ?hn ?hr ?_; (case ho => rfl); (case hg => rfl); (case hn => rfl); (case hr => first | (go_simp; done) | (go_simp; rfl)); intro w42 hw; have hg : wr.grownBy w42 (some go39) := (by rw [hw]; exact HP41.2); have hp_ : Kd.R (Kd.int .i64) 3 w42 w.heap.size (fun k_ => some k_ ≠ (v308 : Value).ownBlock) (.slice (some ⟨go39, 0, none⟩) x6_4.length co40) y321 := (by rw [hw, Ny321.out]; exact HP41.1); clear HP41; replace HO_5 := Aside0.mk (Kd.R_after (v := (.slice (some ⟨go39, 0, none⟩) x6_4.length co40)) (v1 := (.slice (some ⟨go39, 0, none⟩) x6_4.length co40)) (ok := (fun _ => True)) (by (with_reducible repeat (first | apply Kd.R_alloc | apply Kd.R_drewN | apply Kd.R_drew)); exact Kd.R_mono HO_5.out (fun _ hk => ⟨trivial, hk⟩)) hg (.inl rfl)); replace BK316 := Aside0.mk (blk_grown (bk_ BK316) hg (Kd.R_ne HO_6.out BK316.out (by decide))); replace HO_6 := Aside0.mk (hp_); replace HB := Aside0.mk ((by rw [hw]; exact below_set (HB.out) GB39.out : Below w.heap.size w w42)); clear hg hw hp_)))
         go_roundg k4
         case measure => have := HJ2.out; have := HK2.out; have := HK3.out; have := HK4.out; omega
         case rel => exact ⟨(y321), (wrap64 (x53_4 + 1)), rf_, H', ⟨by have := HJ2.out; have := HK2.out; have := HK3.out; have := HK4.out; omega⟩, ⟨by (with_reducible repeat (first | apply Kd.R_alloc | apply Kd.R_drewN | apply Kd.R_drew)); exact Kd.R_mono HO_5.out (fun _ hk => hk.2)⟩, ⟨kR_ HO_6⟩, ⟨by (with_reducible repeat (first | refine blk_drewN ?_ _ | refine blk_drew ?_ | refine blk_alloc ?_ _)); exact BK316.out⟩, ⟨bl_⟩⟩

end Go.Proofs.YtlmbmfnimpjgmaaDoor.P
