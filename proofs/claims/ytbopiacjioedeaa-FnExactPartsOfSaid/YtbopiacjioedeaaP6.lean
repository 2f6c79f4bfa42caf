-- Written by a program of this session (wip/gen/gen.py) out of Lean's print of the loaded program; Lean checks it.
import Derived.Test.YtbopiacjioedeaaP0
import Derived.Test.YtbopiacjioedeaaSq2
import Derived.Test.YtbopiacjioedeaaP3
import Derived.Test.YtbopiacjioedeaaP5
import Derived.Test.YtbopiacjioedeaaExtContains
import Derived.Test.YtbopiacjioedeaaTab
namespace Go.Proofs.Ytbopiacjioedeaa.P
open Go.RowKit Go.Proofs.YtbopiacjioedeaaW.PrintWords Go.Proofs.YtbopiacjioedeaaW.PrintLast Go.Proofs.YtbopiacjioedeaaW.PrintMore
attribute [local go_sem] max2_int min2_int max_two min_two max_three min_three max_four min_four IntKind.wrap_u8 IntKind.wrap_u32 w64_256 w64_u32
set_option maxHeartbeats 8000000
set_option maxRecDepth 100000
set_option linter.unusedVariables false
set_option linter.unusedSimpArgs false

/-! ### impl_Forms: function 47 -/
mutual
def impl_Forms.j0 : Nat → List (S68) → Bool → ByteArray → ByteArray → Option (List ByteArray)
 | 0, _, _, _, _ => none
 | k + 1, x0, x21, x161000, x161001 => if x21 = true then (some (([] : List ByteArray))) else ((some (([false, true] : List Bool) : List Bool)).bind fun y169 => (impl_Forms.l0 k x0 (([x161000] : List ByteArray)) y169 (y169.length : Int) 0 x161000 x161001))
def impl_Forms.l0 : Nat → List (S68) → List ByteArray → List Bool → Int → Int → ByteArray → ByteArray → Option (List ByteArray)
 | 0, _, _, _, _, _, _, _ => none
 | k + 1, x0, x5, x26, x27, x28, x161000, x161001 => if x28 < x27 then (if 0 ≤ x28 then (if x28 < (x26.length : Int) then ((some (([] : List ByteArray) : List ByteArray)).bind fun y176 => (if y176.length + x5.length < 8796093022208 then ((some (y176 ++ x5 : List ByteArray)).bind fun y179 => (impl_Forms.l1 k x0 x5 (rdOf false x26 x28) x26 x27 x28 y179 (y179.length : Int) 0 x161000 x161001)) else (none))) else (none)) else (none)) else ((impl_sorted.f x5).bind fun t172 => (some t172))
def impl_Forms.l1 : Nat → List (S68) → List ByteArray → Bool → List Bool → Int → Int → List ByteArray → Int → Int → ByteArray → ByteArray → Option (List ByteArray)
 | 0, _, _, _, _, _, _, _, _, _, _, _ => none
 | k + 1, x0, x5, x7, x26, x27, x28, x34, x35, x36, x161000, x161001 => if x36 < x35 then (if 0 ≤ x36 then (if x36 < (x34.length : Int) then (impl_Forms.l2 k x0 x5 x7 (rdOf ByteArray.empty x34 x36) x26 x27 x28 x34 x35 x36 x0 (x0.length : Int) 0 x161000 x161001) else (none)) else (none)) else (impl_Forms.l0 k x0 x5 x26 x27 (wrap64 (x28 + 1)) x161000 x161001)
def impl_Forms.l2 : Nat → List (S68) → List ByteArray → Bool → ByteArray → List Bool → Int → Int → List ByteArray → Int → Int → List (S68) → Int → Int → ByteArray → ByteArray → Option (List ByteArray)
 | 0, _, _, _, _, _, _, _, _, _, _, _, _, _, _, _ => none
 | k + 1, x0, x5, x7, x9, x26, x27, x28, x34, x35, x36, x40, x41, x42, x161000, x161001 => if x42 < x41 then (if 0 ≤ x42 then (if x42 < (x40.length : Int) then (if (((rd_T68 x40 x42).f1) != x7) = true then (impl_Forms.j4 k x0 x5 x7 x9 x26 x27 x28 x34 x35 x36 x40 x41 x42 true x161000 x161001 ((rd_T68 x40 x42).f0) ((rd_T68 x40 x42).f1) ((rd_T68 x40 x42).f2) ((rd_T68 x40 x42).f3) ((rd_T68 x40 x42).f4)) else ((strings_Contains.f x161001 ((rd_T68 x40 x42).f0)).bind fun t185 => (impl_Forms.j4 k x0 x5 x7 x9 x26 x27 x28 x34 x35 x36 x40 x41 x42 (!t185) x161000 x161001 ((rd_T68 x40 x42).f0) ((rd_T68 x40 x42).f1) ((rd_T68 x40 x42).f2) ((rd_T68 x40 x42).f3) ((rd_T68 x40 x42).f4)))) else (none)) else (none)) else (impl_Forms.l1 k x0 x5 x7 x26 x27 x28 x34 x35 (wrap64 (x36 + 1)) x161000 x161001)
def impl_Forms.j4 : Nat → List (S68) → List ByteArray → Bool → ByteArray → List Bool → Int → Int → List ByteArray → Int → Int → List (S68) → Int → Int → Bool → ByteArray → ByteArray → ByteArray → Bool → ByteArray → ByteArray → ByteArray → Option (List ByteArray)
 | 0, _, _, _, _, _, _, _, _, _, _, _, _, _, _, _, _, _, _, _, _, _ => none
 | k + 1, x0, x5, x7, x9, x26, x27, x28, x34, x35, x36, x40, x41, x42, x57, x161000, x161001, x185000, x185001, x185002, x185003, x185004 => if x57 = true then (impl_Forms.l2 k x0 x5 x7 x9 x26 x27 x28 x34 x35 x36 x40 x41 (wrap64 (x42 + 1)) x161000 x161001) else (if x7 = true then (impl_Forms.j5 k x0 x5 x7 x9 x26 x27 x28 x34 x35 x36 x40 x41 x42 true x161000 x161001 x185000 x185001 x185002 x185003 x185004) else (impl_Forms.j5 k x0 x5 x7 x9 x26 x27 x28 x34 x35 x36 x40 x41 x42 (x9.toList == x161000.toList) x161000 x161001 x185000 x185001 x185002 x185003 x185004))
def impl_Forms.j5 : Nat → List (S68) → List ByteArray → Bool → ByteArray → List Bool → Int → Int → List ByteArray → Int → Int → List (S68) → Int → Int → Bool → ByteArray → ByteArray → ByteArray → Bool → ByteArray → ByteArray → ByteArray → Option (List ByteArray)
 | 0, _, _, _, _, _, _, _, _, _, _, _, _, _, _, _, _, _, _, _, _, _ => none
 | k + 1, x0, x5, x7, x9, x26, x27, x28, x34, x35, x36, x40, x41, x42, x64, x161000, x161001, x185000, x185001, x185002, x185003, x185004 => if x64 = true then ((impl_AffixDo.f k x185000 x185001 x185002 x185003 x185004 x9).bind fun bt186 => (if bt186.2 = true then (if x5.length < 8796093022208 then (impl_Forms.l2 k x0 (x5 ++ [bt186.1]) x7 x9 x26 x27 x28 x34 x35 x36 x40 x41 (wrap64 (x42 + 1)) x161000 x161001) else (none)) else (impl_Forms.l2 k x0 x5 x7 x9 x26 x27 x28 x34 x35 x36 x40 x41 (wrap64 (x42 + 1)) x161000 x161001))) else (impl_Forms.l2 k x0 x5 x7 x9 x26 x27 x28 x34 x35 x36 x40 x41 (wrap64 (x42 + 1)) x161000 x161001)
end
def impl_Forms.f (k : Nat) (l0 : List (S68)) (a1_0 : ByteArray) (a1_1 : ByteArray) : Option (List ByteArray) := (impl_affixesOk.f k l0).bind fun t161 => (if t161 = true then ((impl_entryOk.f k a1_0 a1_1).bind fun t162 => (impl_Forms.j0 k l0 (!t162) a1_0 a1_1)) else (impl_Forms.j0 k l0 true a1_0 a1_1))
theorem impl_Forms.mono_l : ∀ k, (∀ y0 y1 y2 y3, LeO (impl_Forms.j0 k y0 y1 y2 y3) (impl_Forms.j0 (k + 1) y0 y1 y2 y3)) ∧ (∀ y0 y1 y2 y3 y4 y5 y6, LeO (impl_Forms.l0 k y0 y1 y2 y3 y4 y5 y6) (impl_Forms.l0 (k + 1) y0 y1 y2 y3 y4 y5 y6)) ∧ (∀ y0 y1 y2 y3 y4 y5 y6 y7 y8 y9 y10, LeO (impl_Forms.l1 k y0 y1 y2 y3 y4 y5 y6 y7 y8 y9 y10) (impl_Forms.l1 (k + 1) y0 y1 y2 y3 y4 y5 y6 y7 y8 y9 y10)) ∧ (∀ y0 y1 y2 y3 y4 y5 y6 y7 y8 y9 y10 y11 y12 y13 y14, LeO (impl_Forms.l2 k y0 y1 y2 y3 y4 y5 y6 y7 y8 y9 y10 y11 y12 y13 y14) (impl_Forms.l2 (k + 1) y0 y1 y2 y3 y4 y5 y6 y7 y8 y9 y10 y11 y12 y13 y14)) ∧ (∀ y0 y1 y2 y3 y4 y5 y6 y7 y8 y9 y10 y11 y12 y13 y14 y15 y16 y17 y18 y19 y20, LeO (impl_Forms.j4 k y0 y1 y2 y3 y4 y5 y6 y7 y8 y9 y10 y11 y12 y13 y14 y15 y16 y17 y18 y19 y20) (impl_Forms.j4 (k + 1) y0 y1 y2 y3 y4 y5 y6 y7 y8 y9 y10 y11 y12 y13 y14 y15 y16 y17 y18 y19 y20)) ∧ (∀ y0 y1 y2 y3 y4 y5 y6 y7 y8 y9 y10 y11 y12 y13 y14 y15 y16 y17 y18 y19 y20, LeO (impl_Forms.j5 k y0 y1 y2 y3 y4 y5 y6 y7 y8 y9 y10 y11 y12 y13 y14 y15 y16 y17 y18 y19 y20) (impl_Forms.j5 (k + 1) y0 y1 y2 y3 y4 y5 y6 y7 y8 y9 y10 y11 y12 y13 y14 y15 y16 y17 y18 y19 y20))
 | 0 => ⟨fun _ _ _ _ r h => by simp [impl_Forms.j0] at h, fun _ _ _ _ _ _ _ r h => by simp [impl_Forms.l0] at h, fun _ _ _ _ _ _ _ _ _ _ _ r h => by simp [impl_Forms.l1] at h, fun _ _ _ _ _ _ _ _ _ _ _ _ _ _ _ r h => by simp [impl_Forms.l2] at h, fun _ _ _ _ _ _ _ _ _ _ _ _ _ _ _ _ _ _ _ _ _ r h => by simp [impl_Forms.j4] at h, fun _ _ _ _ _ _ _ _ _ _ _ _ _ _ _ _ _ _ _ _ _ r h => by simp [impl_Forms.j5] at h⟩
 | k + 1 => by
  obtain ⟨ih0, ih1, ih2, ih3, ih4, ih5⟩ := impl_Forms.mono_l k
  refine ⟨?_, ?_, ?_, ?_, ?_, ?_⟩
  · intro y0 y1 y2 y3
    unfold impl_Forms.j0
    have m0 := @impl_AffixDo.mono
    have m1 := @impl_affixesOk.mono
    have m2 := @impl_entryOk.mono
    exact mn_
  · intro y0 y1 y2 y3 y4 y5 y6
    unfold impl_Forms.l0
    have m0 := @impl_AffixDo.mono
    have m1 := @impl_affixesOk.mono
    have m2 := @impl_entryOk.mono
    exact mn_
  · intro y0 y1 y2 y3 y4 y5 y6 y7 y8 y9 y10
    unfold impl_Forms.l1
    have m0 := @impl_AffixDo.mono
    have m1 := @impl_affixesOk.mono
    have m2 := @impl_entryOk.mono
    exact mn_
  · intro y0 y1 y2 y3 y4 y5 y6 y7 y8 y9 y10 y11 y12 y13 y14
    unfold impl_Forms.l2
    have m0 := @impl_AffixDo.mono
    have m1 := @impl_affixesOk.mono
    have m2 := @impl_entryOk.mono
    exact mn_
  · intro y0 y1 y2 y3 y4 y5 y6 y7 y8 y9 y10 y11 y12 y13 y14 y15 y16 y17 y18 y19 y20
    unfold impl_Forms.j4
    have m0 := @impl_AffixDo.mono
    have m1 := @impl_affixesOk.mono
    have m2 := @impl_entryOk.mono
    exact mn_
  · intro y0 y1 y2 y3 y4 y5 y6 y7 y8 y9 y10 y11 y12 y13 y14 y15 y16 y17 y18 y19 y20
    unfold impl_Forms.j5
    have m0 := @impl_AffixDo.mono
    have m1 := @impl_affixesOk.mono
    have m2 := @impl_entryOk.mono
    exact mn_
theorem impl_Forms.mono : ∀ a0 a1 a2 k, LeO (impl_Forms.f k a0 a1 a2) (impl_Forms.f (k + 1) a0 a1 a2) := by
 intro a0 a1 a2 k
 obtain ⟨ih0, ih1, ih2, ih3, ih4, ih5⟩ := impl_Forms.mono_l k
 unfold impl_Forms.f
 have m0 := @impl_AffixDo.mono
 have m1 := @impl_affixesOk.mono
 have m2 := @impl_entryOk.mono
 exact mn_
theorem impl_Forms.calls (k : Nat) (A0 : Option Addr) (c0 : Nat) (l0 : List (S68)) (a1_0 : ByteArray) (a1_1 : ByteArray) (r : List ByteArray) (w : World) (hr0 : Kd.C k68 w A0 l0.length l0) (hc0 : l0.length ≤ c0) (hT : Tab w) (h : impl_Forms.f k l0 a1_0 a1_1 = some r) :
 Calls Try.prog 47 #[.slice A0 l0.length c0, .agg #[.string a1_0, .string a1_1]] w fun e w' => ∃ v0_ : Value, e = .returned (v0_) ∧ Kd.R Kd.string 9 w' w.heap.size (fun _ => True) v0_ r ∧ Below w.heap.size w w' := by
 have hu73 := Try.underlying73
 have hu68 := Try.underlying68
 have HR0 := Aside0.mk hr0
 have HC0 := Aside0.mk hc0
 clear hr0 hc0
 have HTb := Aside0.mk hT
 clear hT
 have HB := Aside0.mk (Below.refl w.heap.size w)
 unfold impl_Forms.f at h; have H := h; clear h
 have HC3 := Aside0.mk H
 clear H
 go_enter Try.func47, Try.ntmps47
 go_upto_region 1 with (first | ((with_reducible refine gate_dst (N := 3) rfl ?_); refine be_ 3 73 #[.string a1_0, .string a1_1] ?_; intro gb160 hg w4 hbox hb; have BK160 := Aside0.mk (hbox); have GW160 := Aside0.mk ((gs_ hg : w.heap.size ≤ gb160)); have GE160 := Aside0.mk ((gs_ hg : w.heap.size ≤ gb160)); replace HB := Aside0.mk (below_step (bl_) hb); clear hb hbox hg))
 (try simp only [Act.put, List.setIfInBounds_toArray, List.set_cons_zero, List.set_cons_succ])
 go_cut [21] (fun v21 wc => ∃ (kq : Nat) (x21_2 : Bool), v21 = .bool x21_2 ∧ Aside0 (impl_Forms.j0 kq l0 x21_2 a1_0 a1_1 = some r) ∧ Aside0 (kq ≤ k) ∧ Aside0 (wc.heap[gb160]? = some (.cells #[.string a1_0, .string a1_1] 73 (0, 0))) ∧ Aside0 (Below w.heap.size w wc))
 case first =>
  have H := HC3.out
  clear HC3
  replace H := Option.bind_eq_some_iff.mp H
  obtain ⟨t161, A50, H⟩ := H; try dsimp only at H
  have A5 := Aside0.mk A50
  clear A50
  replace H := iub_ H; rcases H with ⟨rfl, H⟩ | ⟨rfl, H⟩
  · have H' := Aside0.mk H
    clear H
    go_wp2_with (first | ((with_reducible refine gate_callee (f := 43) rfl ?_); refine gl_ 15 Try.func43 #[.slice A0 l0.length c0] ?_; (with_reducible refine (impl_affixesOk.calls k _ _ l0 false _ ?side1 ?side2 A5.out).mono ?_); (case side1 => exact cb_ HR0); (case side2 => exact HC0.out); rintro e w11 ⟨rfl, hb⟩; refine ⟨_, rfl, ?_⟩; replace BK160 := Aside0.mk (blk_below (bk_ BK160) hb); replace HB := Aside0.mk (below_step (bl_) hb); (try clear hb); (try clear hb2); (try clear hk); (try clear hi)))
    go_meet
    case rel => exact ⟨_, (true), rf_, H', ⟨by first | omega | exact Nat.le_refl _⟩, ⟨by (with_reducible repeat (first | refine blk_drewN ?_ _ | refine blk_drew ?_ | refine blk_alloc ?_ _)); exact BK160.out⟩, ⟨bl_⟩⟩
  replace H := Option.bind_eq_some_iff.mp H
  obtain ⟨t162, A70, H⟩ := H; try dsimp only at H
  have A7 := Aside0.mk A70
  clear A70
  have H' := Aside0.mk H; clear H
  go_wp2_with (first | ((with_reducible refine gate_callee (f := 43) rfl ?_); refine gl_ 15 Try.func43 #[.slice A0 l0.length c0] ?_; (with_reducible refine (impl_affixesOk.calls k _ _ l0 true _ ?side1 ?side2 A5.out).mono ?_); (case side1 => exact cb_ HR0); (case side2 => exact HC0.out); rintro e w8 ⟨rfl, hb⟩; refine ⟨_, rfl, ?_⟩; replace BK160 := Aside0.mk (blk_below (bk_ BK160) hb); replace HB := Aside0.mk (below_step (bl_) hb); (try clear hb); (try clear hb2); (try clear hk); (try clear hi); have hcz9_0 := bc0_ BK160; have hcz9_1 := bc1_ BK160; have hfz9_0 := blk_frozen BK160.out 0; have hfz9_1 := blk_frozen BK160.out 1) | (go_at_call 68; (with_reducible refine (impl_entryOk.calls k a1_0 a1_1 t162 _ A7.out).mono ?_); rintro e w10 ⟨rfl, hb⟩; replace BK160 := Aside0.mk (blk_below (bk_ BK160) hb); replace HB := Aside0.mk (below_step (bl_) hb); (try clear hb); (try clear hb2); (try clear hk); (try clear hi)))
  go_meet
  case rel => exact ⟨_, (!t162), rf_, H', ⟨by first | omega | exact Nat.le_refl _⟩, ⟨by (with_reducible repeat (first | refine blk_drewN ?_ _ | refine blk_drew ?_ | refine blk_alloc ?_ _)); exact BK160.out⟩, ⟨bl_⟩⟩
 case rest =>
  clear HC3
  (try clear p2);(try clear c4);(try clear c6);(try clear hcz9_0);(try clear hcz9_1);(try clear hfz9_0);(try clear hfz9_1)
  obtain ⟨kq, x21_2, rfl, HA, HJ2, BK160, HB⟩ := hcut
  cases kq with
  | zero => exact absurd HA.out (by simp [impl_Forms.j0])
  | succ kj2 =>
   have H := HA.out
   clear HA
   simp only [impl_Forms.j0] at H
   replace H := itb_ H; rcases H with ⟨rfl, H⟩ | ⟨rfl, H⟩
   · obtain ⟨y163, hy_⟩ : ∃ y_ : List ByteArray, y_ = (([] : List ByteArray)) := ⟨_, rfl⟩
     replace H : (some y163) = some r := ry_
     have Ny163 := Aside0.mk hy_; clear hy_
     obtain rfl := Option.some.inj H
     go_wp2_with (first | ((with_reducible refine gate_dst (N := 22) rfl ?_); refine rl_ Kd.string 9 22 ([] : List ByteArray) [] ?_; intro v164 w13 ho14 hb hg_ hnew_; clear hg_ hnew_; (first | rw [← Ny163.out] at ho14 | (simp only [Int.reduceToNat, Int.toNat_natCast] at ho14; rw [← Ny163.out] at ho14)); have HO165 := Aside0.mk (Kd.R_lower ho14 (below_size (bl_))); replace BK160 := Aside0.mk (blk_below (bk_ BK160) hb); replace HB := Aside0.mk (below_step (bl_) hb); clear hb ho14))
     go_ret
     exact ⟨_, rfe_, kR_ HO165, bl_⟩
   obtain ⟨y166, hy_⟩ : ∃ y_ : List ByteArray, y_ = (([a1_0] : List ByteArray)) := ⟨_, rfl⟩
   replace H : ((some (([false, true] : List Bool) : List Bool)).bind fun y169 => (impl_Forms.l0 kj2 l0 y166 y169 (y169.length : Int) 0 a1_0 a1_1)) = some r := ry_
   have Ny166 := Aside0.mk hy_; clear hy_
   obtain ⟨y169, hy_⟩ : ∃ y_ : List Bool, y_ = (([false, true] : List Bool)) := ⟨_, rfl⟩
   replace H : (impl_Forms.l0 kj2 l0 y166 y169 (y169.length : Int) 0 a1_0 a1_1) = some r := ry_
   have Ny169 := Aside0.mk hy_; clear hy_
   have H' := Aside0.mk H; clear H
   have hcz15_0 := bc0_ BK160
   have hcz15_1 := bc1_ BK160
   have hfz15_0 := blk_frozen BK160.out 0
   have hfz15_1 := blk_frozen BK160.out 1
   go_wp2_with (first | ((with_reducible refine gate_dst (N := 25) rfl ?_); refine rl_ Kd.string 9 25 ([a1_0] : List ByteArray) [.string a1_0] ?_; intro v167 w16 ho17 hb hg_ hnew_; clear hg_ hnew_; (first | rw [← Ny166.out] at ho17 | (simp only [Int.reduceToNat, Int.toNat_natCast] at ho17; rw [← Ny166.out] at ho17)); have HO168 := Aside0.mk (Kd.R_lower ho17 (below_size (bl_))); replace BK160 := Aside0.mk (blk_below (bk_ BK160) hb); replace HB := Aside0.mk (below_step (bl_) hb); clear hb ho17) | ((with_reducible refine gate_dst (N := 26) rfl ?_); refine rl_ Kd.bool 4 26 ([false, true] : List Bool) [.bool false, .bool true] ?_; intro v170 w18 ho19 hb hg_ hnew_; clear hg_ hnew_; (first | rw [← Ny169.out] at ho19 | (simp only [Int.reduceToNat, Int.toNat_natCast] at ho19; rw [← Ny169.out] at ho19)); replace HO168 := Aside0.mk (Kd.R_below (kR_ HO168) hb); have HO171 := Aside0.mk (Kd.R_lower ho19 (below_size (bl_))); replace BK160 := Aside0.mk (blk_below (bk_ BK160) hb); replace HB := Aside0.mk (below_step (bl_) hb); clear hb ho19; obtain ⟨Ao20, co20, eo20⟩ := Kd.R_slice HO171.out; subst eo20))
   go_loopg [5, 28] kj2 (fun kq v5 v28 w' => ∃ (x5_2 : List ByteArray) (x28_2 : Int), v28 = .int .i64 x28_2 ∧ Aside0 (impl_Forms.l0 kq l0 x5_2 y169 (y169.length : Int) x28_2 a1_0 a1_1 = some r) ∧ Aside0 (kq ≤ kj2) ∧ Aside0 (Kd.R Kd.string 9 w' w.heap.size (fun _ => True) v5 x5_2) ∧ Aside0 (Kd.R Kd.bool 4 w' w.heap.size (fun _ => True) (.slice Ao20 y169.length co20) y169) ∧ Aside0 (w'.heap[gb160]? = some (.cells #[.string a1_0, .string a1_1] 73 (0, 0))) ∧ Aside0 (Below w.heap.size w w'))
   case atStart => exact ⟨(y166), (0), rf_, H', ⟨Nat.le_refl _⟩, ⟨kR_ HO168⟩, ⟨kR_ HO171⟩, ⟨by (with_reducible repeat (first | refine blk_drewN ?_ _ | refine blk_drew ?_ | refine blk_alloc ?_ _)); exact BK160.out⟩, ⟨bl_⟩⟩
   case round =>
    clear H'
    (try clear c1);(try clear p2);(try clear c4);(try clear c6);(try clear c12);(try clear hcz15_0);(try clear hcz15_1);(try clear hcz9_0);(try clear hcz9_1);(try clear hfz15_0);(try clear hfz15_1);(try clear hfz9_0);(try clear hfz9_1);(try clear p2)
    obtain ⟨x5_2, x28_2, rfl, HA, HK2, HO_5, HO_26, BK160, HB⟩ := hrel
    cases gk with
    | zero => exact absurd HA.out (by simp [impl_Forms.l0])
    | succ k2 =>
     have H := HA.out
     clear HA
     simp only [impl_Forms.l0] at H
     replace H := iucd_ H; rcases H with ⟨c21b0, H⟩ | ⟨c21, H⟩
     · replace H := Option.bind_eq_some_iff.mp H
       obtain ⟨t172, A640, H⟩ := H; try dsimp only at H
       have A64 := Aside0.mk A640
       clear A640
       obtain rfl := Option.some.inj H
       obtain ⟨Ao65, co65, eo65⟩ := Kd.R_slice HO_5.out
       subst eo65
       go_wp2_with (first | ((with_reducible refine gate_callee (f := 48) rfl ?_); refine gl_ 80 Try.func48 #[.slice Ao65 x5_2.length co65] ?_; (with_reducible refine (impl_sorted.calls _ _ x5_2 t172 _ ?side1 ?side2 A64.out).mono ?_); (case side1 => exact cr_ HO_5); (case side2 => exact (Kd.R_reads' HO_5.out).2.1); rintro e w66 ⟨v173, rfl, ho0, hb⟩; refine ⟨_, rfl, ?_⟩; replace HO_26 := Aside0.mk (Kd.R_below (kR_ HO_26) hb); have HO174 := Aside0.mk (Kd.R_lower (Kd.R_new' ho0 (Kd.R_lt (kR_ HO_5))) (below_size (bl_))); replace HO_5 := Aside0.mk (Kd.R_elder' (kR_ HO_5) (Kd.R_base ho0) hb); replace BK160 := Aside0.mk (blk_below (bk_ BK160) hb); replace HB := Aside0.mk (below_step (bl_) hb); (try clear hb); (try clear hb2); (try clear hk); (try clear hi); (try clear ho0)))
       go_ret
       exact ⟨_, rfe_, by (with_reducible repeat (first | apply Kd.R_alloc | apply Kd.R_drewN | apply Kd.R_drew)); exact Kd.R_mono HO174.out (fun _ hk => trivial), bl_⟩
     have c21b0 : decide (x28_2 < (y169.length : Int)) = true := decide_eq_true c21
     clear c21
     replace H := inc_ H; obtain ⟨c22, H⟩ := H
     have c22b0 : decide (0 ≤ x28_2) = true := decide_eq_true c22
     clear c22
     replace H := inc_ H; obtain ⟨c23, H⟩ := H
     have c23b0 : decide (x28_2 < (y169.length : Int)) = true := decide_eq_true c23
     clear c23
     obtain ⟨y176, hy_⟩ : ∃ y_ : List ByteArray, y_ = (([] : List ByteArray)) := ⟨_, rfl⟩
     replace H : (if y176.length + x5_2.length < 8796093022208 then ((some (y176 ++ x5_2 : List ByteArray)).bind fun y179 => (impl_Forms.l1 k2 l0 x5_2 (rdOf false y169 x28_2) y169 (y169.length : Int) x28_2 y179 (y179.length : Int) 0 a1_0 a1_1)) else (none)) = some r := ry_
     have Ny176 := Aside0.mk hy_; clear hy_
     replace H := inc_ H; obtain ⟨c24, H⟩ := H
     have LMc24 := Aside0.mk c24
     clear c24
     obtain ⟨y179, hy_⟩ : ∃ y_ : List ByteArray, y_ = (y176 ++ x5_2) := ⟨_, rfl⟩
     replace H : (impl_Forms.l1 k2 l0 x5_2 (rdOf false y169 x28_2) y169 (y169.length : Int) x28_2 y179 (y179.length : Int) 0 a1_0 a1_1) = some r := ry_
     have Ny179 := Aside0.mk hy_; clear hy_
     have H' := Aside0.mk H; clear H
     have p175 : 0 ≤ (x28_2 : Int) := od_
     have q175 : x28_2 < (y169.length : Int) := od_
     obtain ⟨ad175, e175, hx175_0⟩ := Kd.at_bool (Kd.R_reads' HO_26.out).2.2 x28_2 p175 q175
     cases e175
     replace p175 := eq_true p175; replace q175 := eq_true q175
     go_wp2_with (first | ((with_reducible refine gate_dst (N := 32) rfl ?_); refine rl_ Kd.string 9 32 ([] : List ByteArray) [] ?_; intro v177 w25 ho26 hb hg_ hnew_; clear hg_ hnew_; (first | rw [← Ny176.out] at ho26 | (simp only [Int.reduceToNat, Int.toNat_natCast] at ho26; rw [← Ny176.out] at ho26)); replace HO_26 := Aside0.mk (Kd.R_below (kR_ HO_26) hb); have HO178 := Aside0.mk (Kd.R_lower (Kd.R_new' ho26 (Kd.R_lt (kR_ HO_5))) (below_size (bl_))); replace HO_5 := Aside0.mk (Kd.R_elder' (kR_ HO_5) (Kd.R_base ho26) hb); replace BK160 := Aside0.mk (blk_below (bk_ BK160) hb); replace HB := Aside0.mk (below_step (bl_) hb); clear hb ho26; obtain ⟨Ao28, co28, eo28⟩ := Kd.R_slice HO_5.out; subst eo28) | ((with_reducible refine gate_builtin (b := .append) (xs := #[.tmp 32, .tmp 33]) rfl ?_); at_builtin; refine Kd.R_append_rows Kd.string (w0 := w) w.heap.size rfl (.tmp 32) (.tmp 33) 29 9 (.string ⟨#[]⟩) 16 rfl Try.underlying29 info9 rfl (by decide) (by omega) v177 y176 x5_2 _ _ _ (fun k_ => some k_ ≠ (.slice Ao28 x5_2.length co28 : Value).ownBlock) (fun _ => False) rfl rfl ?aO ?aR (fun _ _ h => h) (fun _ h => h.elim) ?aF ?aB ?aS ?aL ?_; (case aR => exact cr_ HO_5); (case aB => exact (bl_)); (case aF => exact (fun k_ hk => Kd.fresh' (Kd.R_lt (kR_ HO_5)) k_ hk)); (case aO => exact (by (with_reducible repeat (first | apply Kd.R_alloc | apply Kd.R_drewN | apply Kd.R_drew)); exact Kd.R_mono HO178.out (fun _ hk => hk.2))); (case aS => exact (below_size (bl_))); (case aL => have := LMc24.out; omega); intro v180 w27 ho hb hg hat; rw [← Ny179.out] at ho; replace HO_5 := Aside0.mk (Kd.R_after (ok := (fun _ => True)) (kR_ HO_5) hg hat); replace HO_26 := Aside0.mk (Kd.R_over' (kR_ HO_26) (Kd.R_typed (kR_ HO178)) (by decide) hg); replace BK160 := Aside0.mk (blk_grown (bk_ BK160) hg (Kd.R_ne HO178.out BK160.out (by decide))); replace HB := Aside0.mk (hb); have HO181 := Aside0.mk (ho); clear HO178; clear ho hb hg hat; obtain ⟨Ao29, co29, eo29⟩ := Kd.R_slice HO181.out; subst eo29))
     go_loopg [5, 36] k2 (fun kq v5 v36 w' => ∃ (x5_3 : List ByteArray) (x36_3 : Int), v36 = .int .i64 x36_3 ∧ Aside0 (impl_Forms.l1 kq l0 x5_3 (rdOf false y169 x28_2) y169 (y169.length : Int) x28_2 y179 (y179.length : Int) x36_3 a1_0 a1_1 = some r) ∧ Aside0 (kq ≤ k2) ∧ Aside0 (Kd.R Kd.string 9 w' w.heap.size (fun k_ => some k_ ≠ ((.slice Ao29 y179.length co29) : Value).ownBlock) v5 x5_3) ∧ Aside0 (Kd.R Kd.bool 4 w' w.heap.size (fun _ => True) (.slice (some ad175) y169.length co20) y169) ∧ Aside0 (Kd.R Kd.string 9 w' w.heap.size (fun k_ => some k_ ≠ (v5 : Value).ownBlock) (.slice Ao29 y179.length co29) y179) ∧ Aside0 (w'.heap[gb160]? = some (.cells #[.string a1_0, .string a1_1] 73 (0, 0))) ∧ Aside0 (Below w.heap.size w w'))
     case atStart => exact ⟨(x5_2), (0), rf_, H', ⟨Nat.le_refl _⟩, ⟨by (with_reducible repeat (first | apply Kd.R_alloc | apply Kd.R_drewN | apply Kd.R_drew)); exact Kd.R_mono HO_5.out (fun _ hk => hk.2)⟩, ⟨kR_ HO_26⟩, ⟨kR_ HO181⟩, ⟨by (with_reducible repeat (first | refine blk_drewN ?_ _ | refine blk_drew ?_ | refine blk_alloc ?_ _)); exact BK160.out⟩, ⟨bl_⟩⟩
     case round =>
      clear H'
      (try clear c1);(try clear p1);(try clear q1);(try clear hx1);(try clear c2);(try clear p2);(try clear c4);(try clear c6);(try clear c12);(try clear p17);(try clear q17);(try clear hx17);(try clear c21);(try clear c21b0);(try clear c22);(try clear c22b0);(try clear c23);(try clear c23b0);(try clear c24);(try clear hcz15_0);(try clear hcz15_1);(try clear hcz9_0);(try clear hcz9_1);(try clear hfz15_0);(try clear hfz15_1);(try clear hfz9_0);(try clear hfz9_1);(try clear hx175_0);(try clear p175);(try clear p2);(try clear q175)
      obtain ⟨x5_3, x36_3, rfl, HA, HK3, HO_5, HO_26, HO_34, BK160, HB⟩ := hrel
      cases gk with
      | zero => exact absurd HA.out (by simp [impl_Forms.l1])
      | succ k3 =>
       have H := HA.out
       clear HA
       simp only [impl_Forms.l1] at H
       replace H := iucd_ H; rcases H with ⟨c30b0, H⟩ | ⟨c30, H⟩
       · have H' := Aside0.mk H
         clear H
         go_wp2
         go_roundg k3
         case measure => have := HJ2.out; have := HK2.out; have := HK3.out; omega
         case rel => exact ⟨(x5_3), (wrap64 (x28_2 + 1)), rf_, H', ⟨by have := HJ2.out; have := HK2.out; have := HK3.out; omega⟩, ⟨by (with_reducible repeat (first | apply Kd.R_alloc | apply Kd.R_drewN | apply Kd.R_drew)); exact Kd.R_mono HO_5.out (fun _ hk => trivial)⟩, ⟨kR_ HO_26⟩, ⟨by (with_reducible repeat (first | refine blk_drewN ?_ _ | refine blk_drew ?_ | refine blk_alloc ?_ _)); exact BK160.out⟩, ⟨bl_⟩⟩
       have c30b0 : decide (x36_3 < (y179.length : Int)) = true := decide_eq_true c30
       clear c30
       replace H := inc_ H; obtain ⟨c31, H⟩ := H
       have c31b0 : decide (0 ≤ x36_3) = true := decide_eq_true c31
       clear c31
       replace H := inc_ H; obtain ⟨c32, H⟩ := H
       have c32b0 : decide (x36_3 < (y179.length : Int)) = true := decide_eq_true c32
       clear c32
       have H' := Aside0.mk H; clear H
       have p182 : 0 ≤ (x36_3 : Int) := od_
       have q182 : x36_3 < (y179.length : Int) := od_
       obtain ⟨ad182, e182, hx182_0⟩ := Kd.at_string (Kd.R_reads' HO_34.out).2.2 x36_3 p182 q182
       cases e182
       replace p182 := eq_true p182; replace q182 := eq_true q182
       go_wp2
       go_loopg [5, 42] k3 (fun kq v5 v42 w' => ∃ (x5_4 : List ByteArray) (x42_4 : Int), v42 = .int .i64 x42_4 ∧ Aside0 (impl_Forms.l2 kq l0 x5_4 (rdOf false y169 x28_2) (rdOf ByteArray.empty y179 x36_3) y169 (y169.length : Int) x28_2 y179 (y179.length : Int) x36_3 l0 (l0.length : Int) x42_4 a1_0 a1_1 = some r) ∧ Aside0 (kq ≤ k3) ∧ Aside0 (Kd.R Kd.string 9 w' w.heap.size (fun k_ => some k_ ≠ ((.slice (some ad182) y179.length co29) : Value).ownBlock) v5 x5_4) ∧ Aside0 (Kd.R Kd.bool 4 w' w.heap.size (fun _ => True) (.slice (some ad175) y169.length co20) y169) ∧ Aside0 (Kd.R Kd.string 9 w' w.heap.size (fun k_ => some k_ ≠ (v5 : Value).ownBlock) (.slice (some ad182) y179.length co29) y179) ∧ Aside0 (w'.heap[gb160]? = some (.cells #[.string a1_0, .string a1_1] 73 (0, 0))) ∧ Aside0 (Below w.heap.size w w'))
       case atStart => exact ⟨(x5_3), (0), rf_, H', ⟨Nat.le_refl _⟩, ⟨kR_ HO_5⟩, ⟨kR_ HO_26⟩, ⟨kR_ HO_34⟩, ⟨by (with_reducible repeat (first | refine blk_drewN ?_ _ | refine blk_drew ?_ | refine blk_alloc ?_ _)); exact BK160.out⟩, ⟨bl_⟩⟩
       case round =>
        clear H'
        (try clear c1);(try clear p1);(try clear q1);(try clear hx1);(try clear c2);(try clear p2);(try clear c3);(try clear c4);(try clear c6);(try clear c12);(try clear p17);(try clear q17);(try clear hx17);(try clear p18);(try clear q18);(try clear hx18);(try clear c21);(try clear c21b0);(try clear c22);(try clear c22b0);(try clear c23);(try clear c23b0);(try clear c24);(try clear c30);(try clear c30b0);(try clear c31);(try clear c31b0);(try clear c32);(try clear c32b0);(try clear hcz15_0);(try clear hcz15_1);(try clear hcz9_0);(try clear hcz9_1);(try clear hfz15_0);(try clear hfz15_1);(try clear hfz9_0);(try clear hfz9_1);(try clear hx175_0);(try clear hx182_0);(try clear p1);(try clear p17);(try clear p175);(try clear p182);(try clear p2);(try clear q1);(try clear q17);(try clear q175);(try clear q182)
        obtain ⟨x5_4, x42_4, rfl, HA, HK4, HO_5, HO_26, HO_34, BK160, HB⟩ := hrel
        cases gk with
        | zero => exact absurd HA.out (by simp [impl_Forms.l2])
        | succ k4 =>
         have H := HA.out
         clear HA
         simp only [impl_Forms.l2] at H
         replace H := iucd_ H; rcases H with ⟨c33b0, H⟩ | ⟨c33, H⟩
         · have H' := Aside0.mk H
           clear H
           go_wp2
           go_roundg k4
           case measure => have := HJ2.out; have := HK2.out; have := HK3.out; have := HK4.out; omega
           case rel => exact ⟨(x5_4), (wrap64 (x36_3 + 1)), rf_, H', ⟨by have := HJ2.out; have := HK2.out; have := HK3.out; have := HK4.out; omega⟩, ⟨kR_ HO_5⟩, ⟨kR_ HO_26⟩, ⟨kR_ HO_34⟩, ⟨by (with_reducible repeat (first | refine blk_drewN ?_ _ | refine blk_drew ?_ | refine blk_alloc ?_ _)); exact BK160.out⟩, ⟨bl_⟩⟩
         have c33b0 : decide (x42_4 < (l0.length : Int)) = true := decide_eq_true c33
         clear c33
         replace H := inc_ H; obtain ⟨c34, H⟩ := H
         have c34b0 : decide (0 ≤ x42_4) = true := decide_eq_true c34
         clear c34
         replace H := inc_ H; obtain ⟨c35, H⟩ := H
         have c35b0 : decide (x42_4 < (l0.length : Int)) = true := decide_eq_true c35
         clear c35
         have HC36 := Aside0.mk H
         clear H
         have p183 : 0 ≤ (x42_4 : Int) := od_
         have q183 : x42_4 < (l0.length : Int) := od_
         obtain ⟨ad183, e183, hx183_0, hx183_1, hx183_2, hx183_3, hx183_4⟩ := at_T68 HR0.out x42_4 p183 q183
         cases e183
         replace hx183_0 := hc_ HB hx183_0
         replace hx183_1 := hc_ HB hx183_1
         replace hx183_2 := hc_ HB hx183_2
         replace hx183_3 := hc_ HB hx183_3
         replace hx183_4 := hc_ HB hx183_4
         replace p183 := eq_true p183; replace q183 := eq_true q183
         go_upto_region 13 with (first | ((with_reducible refine gate_dst (N := 11) rfl ?_); refine be_ 11 68 #[.string (⟨#[]⟩ : ByteArray), .bool false, .string (⟨#[]⟩ : ByteArray), .string (⟨#[]⟩ : ByteArray), .string (⟨#[]⟩ : ByteArray)] ?_; intro gb184 hg w37 hbox hb; replace HO_5 := Aside0.mk (Kd.R_below (kR_ HO_5) hb); replace HO_26 := Aside0.mk (Kd.R_below (kR_ HO_26) hb); replace HO_34 := Aside0.mk (Kd.R_below (kR_ HO_34) hb); have BK184 := Aside0.mk (hbox); have GW184 := Aside0.mk ((gs_ hg : w.heap.size ≤ gb184)); have GE184 := Aside0.mk ((gs_ hg : w.heap.size ≤ gb184)); replace HB := Aside0.mk (below_step (bl_) hb); have NB160_184 := Aside0.mk ((by rw [hg]; exact Nat.ne_of_lt (blk_lt (bk_ BK160)) : gb160 ≠ gb184)); have NB184_160 := Aside0.mk ((by rw [hg]; exact Nat.ne_of_gt (blk_lt (bk_ BK160)) : gb184 ≠ gb160)); replace BK160 := Aside0.mk (blk_below (bk_ BK160) hb); clear hb hbox hg; have hnb38 := NB184_160.out; have hnc38 := NB160_184.out; have hcz39_0 := bc0_ BK184; have hcz39_1 := bc1_ BK184; have hcz39_2 := bc2_ BK184; have hcz39_3 := bc3_ BK184; have hcz39_4 := bc4_ BK184; have hfz39_0 := blk_frozen BK184.out 0; have hfz39_1 := blk_frozen BK184.out 1; have hfz39_2 := blk_frozen BK184.out 2; have hfz39_3 := blk_frozen BK184.out 3; have hfz39_4 := blk_frozen BK184.out 4))
         (try simp only [Act.put, List.setIfInBounds_toArray, List.set_cons_zero, List.set_cons_succ])
         go_cut [57] (fun v57 wc => ∃ (kq : Nat) (x57_35 : Bool), v57 = .bool x57_35 ∧ Aside0 (impl_Forms.j4 kq l0 x5_4 (rdOf false y169 x28_2) (rdOf ByteArray.empty y179 x36_3) y169 (y169.length : Int) x28_2 y179 (y179.length : Int) x36_3 l0 (l0.length : Int) x42_4 x57_35 a1_0 a1_1 ((rd_T68 l0 x42_4).f0) ((rd_T68 l0 x42_4).f1) ((rd_T68 l0 x42_4).f2) ((rd_T68 l0 x42_4).f3) ((rd_T68 l0 x42_4).f4) = some r) ∧ Aside0 (kq ≤ k4) ∧ Aside0 (Kd.R Kd.string 9 wc w.heap.size (fun k_ => some k_ ≠ ((.slice (some ad182) y179.length co29) : Value).ownBlock) u5 x5_4) ∧ Aside0 (Kd.R Kd.bool 4 wc w.heap.size (fun _ => True) (.slice (some ad175) y169.length co20) y169) ∧ Aside0 (Kd.R Kd.string 9 wc w.heap.size (fun k_ => some k_ ≠ (u5 : Value).ownBlock) (.slice (some ad182) y179.length co29) y179) ∧ Aside0 (wc.heap[gb160]? = some (.cells #[.string a1_0, .string a1_1] 73 (0, 0))) ∧ Aside0 (wc.heap[gb184]? = some (.cells #[.string ((rd_T68 l0 x42_4).f0), .bool ((rd_T68 l0 x42_4).f1), .string ((rd_T68 l0 x42_4).f2), .string ((rd_T68 l0 x42_4).f3), .string ((rd_T68 l0 x42_4).f4)] 68 (0, 0))) ∧ Aside0 (Below w.heap.size w wc))
         case first =>
          have H := HC36.out
          clear HC36
          replace H := itcc_ H; rcases H with ⟨c40, H⟩ | ⟨c40, H⟩
          · have c40b0 : (((rd_T68 l0 x42_4).f1) != (rdOf false y169 x28_2)) = true := c40
            (try (have c40b1 : decide (((rd_T68 l0 x42_4).f1) = (rdOf false y169 x28_2)) = false := by simpa using c40))
            (try (have c40b2 : (((rd_T68 l0 x42_4).f1) == (rdOf false y169 x28_2)) = false := by simpa using c40))
            (try (have c40b3 : ¬ (((rd_T68 l0 x42_4).f1) = (rdOf false y169 x28_2)) := by simpa using c40))
            clear c40
            (first | rw [c40b0] | (simp only [i64_w, i32_w]; rw [c40b0]) | skip)
            have H' := Aside0.mk H; clear H
            have hnb41 := NB184_160.out
            have hnc41 := NB160_184.out
            have hcz42_0 := bc0_ BK184
            have hcz42_1 := bc1_ BK184
            have hcz42_2 := bc2_ BK184
            have hcz42_3 := bc3_ BK184
            have hcz42_4 := bc4_ BK184
            have hfz42_0 := blk_frozen BK184.out 0
            have hfz42_1 := blk_frozen BK184.out 1
            have hfz42_2 := blk_frozen BK184.out 2
            have hfz42_3 := blk_frozen BK184.out 3
            have hfz42_4 := blk_frozen BK184.out 4
            go_wp2
            go_meet
            case rel => exact ⟨_, (true), rf_, H', ⟨by have := HJ2.out; have := HK2.out; have := HK3.out; have := HK4.out; first | omega | exact Nat.le_refl _⟩, ⟨by (with_reducible repeat (first | apply Kd.R_alloc | apply Kd.R_drewN | apply Kd.R_drew)); exact Kd.R_mono (Kd.R_far (p := ⟨gb184, 4, none⟩) (Kd.R_far (p := ⟨gb184, 3, none⟩) (Kd.R_far (p := ⟨gb184, 2, none⟩) (Kd.R_far (p := ⟨gb184, 1, none⟩) (Kd.R_far (p := ⟨gb184, 0, none⟩) (Kd.R_types HO_5.out BK184.out (by decide)) (fun _ hk => hk.2) (.string ((rd_T68 l0 x42_4).f0))) (fun _ hk => hk.2) (.bool ((rd_T68 l0 x42_4).f1))) (fun _ hk => hk.2) (.string ((rd_T68 l0 x42_4).f2))) (fun _ hk => hk.2) (.string ((rd_T68 l0 x42_4).f3))) (fun _ hk => hk.2) (.string ((rd_T68 l0 x42_4).f4))) (fun _ hk => hk.1)⟩, ⟨by (with_reducible repeat (first | apply Kd.R_alloc | apply Kd.R_drewN | apply Kd.R_drew)); exact Kd.R_mono (Kd.R_far (p := ⟨gb184, 4, none⟩) (Kd.R_far (p := ⟨gb184, 3, none⟩) (Kd.R_far (p := ⟨gb184, 2, none⟩) (Kd.R_far (p := ⟨gb184, 1, none⟩) (Kd.R_far (p := ⟨gb184, 0, none⟩) (Kd.R_types HO_26.out BK184.out (by decide)) (fun _ hk => hk.2) (.string ((rd_T68 l0 x42_4).f0))) (fun _ hk => hk.2) (.bool ((rd_T68 l0 x42_4).f1))) (fun _ hk => hk.2) (.string ((rd_T68 l0 x42_4).f2))) (fun _ hk => hk.2) (.string ((rd_T68 l0 x42_4).f3))) (fun _ hk => hk.2) (.string ((rd_T68 l0 x42_4).f4))) (fun _ hk => trivial)⟩, ⟨by (with_reducible repeat (first | apply Kd.R_alloc | apply Kd.R_drewN | apply Kd.R_drew)); exact Kd.R_mono (Kd.R_far (p := ⟨gb184, 4, none⟩) (Kd.R_far (p := ⟨gb184, 3, none⟩) (Kd.R_far (p := ⟨gb184, 2, none⟩) (Kd.R_far (p := ⟨gb184, 1, none⟩) (Kd.R_far (p := ⟨gb184, 0, none⟩) (Kd.R_types HO_34.out BK184.out (by decide)) (fun _ hk => hk.2) (.string ((rd_T68 l0 x42_4).f0))) (fun _ hk => hk.2) (.bool ((rd_T68 l0 x42_4).f1))) (fun _ hk => hk.2) (.string ((rd_T68 l0 x42_4).f2))) (fun _ hk => hk.2) (.string ((rd_T68 l0 x42_4).f3))) (fun _ hk => hk.2) (.string ((rd_T68 l0 x42_4).f4))) (fun _ hk => hk.1)⟩, ⟨by (with_reducible repeat (first | refine blk_drewN ?_ _ | refine blk_drew ?_ | refine blk_alloc ?_ _)); refine blk_far ?_ NB160_184.out _; (with_reducible repeat (first | refine blk_drewN ?_ _ | refine blk_drew ?_ | refine blk_alloc ?_ _)); refine blk_far ?_ NB160_184.out _; (with_reducible repeat (first | refine blk_drewN ?_ _ | refine blk_drew ?_ | refine blk_alloc ?_ _)); refine blk_far ?_ NB160_184.out _; (with_reducible repeat (first | refine blk_drewN ?_ _ | refine blk_drew ?_ | refine blk_alloc ?_ _)); refine blk_far ?_ NB160_184.out _; (with_reducible repeat (first | refine blk_drewN ?_ _ | refine blk_drew ?_ | refine blk_alloc ?_ _)); refine blk_far ?_ NB160_184.out _; (with_reducible repeat (first | refine blk_drewN ?_ _ | refine blk_drew ?_ | refine blk_alloc ?_ _)); exact BK160.out⟩, ⟨by (with_reducible repeat (first | refine blk_drewN ?_ _ | refine blk_drew ?_ | refine blk_alloc ?_ _)); refine blk_put (cs := #[.string ((rd_T68 l0 x42_4).f0), .bool ((rd_T68 l0 x42_4).f1), .string ((rd_T68 l0 x42_4).f2), .string ((rd_T68 l0 x42_4).f3), .string (⟨#[]⟩ : ByteArray)]) ?_ 4 _ rfl; (with_reducible repeat (first | refine blk_drewN ?_ _ | refine blk_drew ?_ | refine blk_alloc ?_ _)); refine blk_put (cs := #[.string ((rd_T68 l0 x42_4).f0), .bool ((rd_T68 l0 x42_4).f1), .string ((rd_T68 l0 x42_4).f2), .string (⟨#[]⟩ : ByteArray), .string (⟨#[]⟩ : ByteArray)]) ?_ 3 _ rfl; (with_reducible repeat (first | refine blk_drewN ?_ _ | refine blk_drew ?_ | refine blk_alloc ?_ _)); refine blk_put (cs := #[.string ((rd_T68 l0 x42_4).f0), .bool ((rd_T68 l0 x42_4).f1), .string (⟨#[]⟩ : ByteArray), .string (⟨#[]⟩ : ByteArray), .string (⟨#[]⟩ : ByteArray)]) ?_ 2 _ rfl; (with_reducible repeat (first | refine blk_drewN ?_ _ | refine blk_drew ?_ | refine blk_alloc ?_ _)); refine blk_put (cs := #[.string ((rd_T68 l0 x42_4).f0), .bool false, .string (⟨#[]⟩ : ByteArray), .string (⟨#[]⟩ : ByteArray), .string (⟨#[]⟩ : ByteArray)]) ?_ 1 _ rfl; (with_reducible repeat (first | refine blk_drewN ?_ _ | refine blk_drew ?_ | refine blk_alloc ?_ _)); refine blk_put (cs := #[.string (⟨#[]⟩ : ByteArray), .bool false, .string (⟨#[]⟩ : ByteArray), .string (⟨#[]⟩ : ByteArray), .string (⟨#[]⟩ : ByteArray)]) ?_ 0 _ rfl; (with_reducible repeat (first | refine blk_drewN ?_ _ | refine blk_drew ?_ | refine blk_alloc ?_ _)); exact BK184.out⟩, ⟨bl_⟩⟩
          have c40b0 : (((rd_T68 l0 x42_4).f1) != (rdOf false y169 x28_2)) = false := by simpa using c40
          (try (have c40b1 : decide (((rd_T68 l0 x42_4).f1) = (rdOf false y169 x28_2)) = true := by simpa using c40))
          (try (have c40b2 : (((rd_T68 l0 x42_4).f1) == (rdOf false y169 x28_2)) = true := by simpa using c40))
          clear c40
          (first | rw [c40b0] | (simp only [i64_w, i32_w]; rw [c40b0]) | skip)
          replace H := Option.bind_eq_some_iff.mp H
          obtain ⟨t185, A430, H⟩ := H; try dsimp only at H
          have A43 := Aside0.mk A430
          clear A430
          have H' := Aside0.mk H; clear H
          have hnb44 := NB184_160.out
          have hnc44 := NB160_184.out
          have hcz45_0 := bc0_ BK184
          have hcz45_1 := bc1_ BK184
          have hcz45_2 := bc2_ BK184
          have hcz45_3 := bc3_ BK184
          have hcz45_4 := bc4_ BK184
          have hfz45_0 := blk_frozen BK184.out 0
          have hfz45_1 := blk_frozen BK184.out 1
          have hfz45_2 := blk_frozen BK184.out 2
          have hfz45_3 := blk_frozen BK184.out 3
          have hfz45_4 := blk_frozen BK184.out 4
          have hcz46_0 := bc0_ BK160
          have hcz46_1 := bc1_ BK160
          have hfz46_0 := blk_frozen BK160.out 0
          have hfz46_1 := blk_frozen BK160.out 1
          go_wp2_with (first | (go_at_call 69; (with_reducible refine (strings_Contains.calls a1_1 ((rd_T68 l0 x42_4).f0) t185 _ ?side1 A43.out).mono ?_); (case side1 => exact tab_below HTb.out (bl_)); rintro e w' ⟨rfl, ⟨nd, rfl⟩⟩))
          go_meet
          case rel => exact ⟨_, (!t185), rf_, H', ⟨by have := HJ2.out; have := HK2.out; have := HK3.out; have := HK4.out; first | omega | exact Nat.le_refl _⟩, ⟨by (with_reducible repeat (first | apply Kd.R_alloc | apply Kd.R_drewN | apply Kd.R_drew)); exact Kd.R_mono (Kd.R_far (p := ⟨gb184, 4, none⟩) (Kd.R_far (p := ⟨gb184, 3, none⟩) (Kd.R_far (p := ⟨gb184, 2, none⟩) (Kd.R_far (p := ⟨gb184, 1, none⟩) (Kd.R_far (p := ⟨gb184, 0, none⟩) (Kd.R_types HO_5.out BK184.out (by decide)) (fun _ hk => hk.2) (.string ((rd_T68 l0 x42_4).f0))) (fun _ hk => hk.2) (.bool ((rd_T68 l0 x42_4).f1))) (fun _ hk => hk.2) (.string ((rd_T68 l0 x42_4).f2))) (fun _ hk => hk.2) (.string ((rd_T68 l0 x42_4).f3))) (fun _ hk => hk.2) (.string ((rd_T68 l0 x42_4).f4))) (fun _ hk => hk.1)⟩, ⟨by (with_reducible repeat (first | apply Kd.R_alloc | apply Kd.R_drewN | apply Kd.R_drew)); exact Kd.R_mono (Kd.R_far (p := ⟨gb184, 4, none⟩) (Kd.R_far (p := ⟨gb184, 3, none⟩) (Kd.R_far (p := ⟨gb184, 2, none⟩) (Kd.R_far (p := ⟨gb184, 1, none⟩) (Kd.R_far (p := ⟨gb184, 0, none⟩) (Kd.R_types HO_26.out BK184.out (by decide)) (fun _ hk => hk.2) (.string ((rd_T68 l0 x42_4).f0))) (fun _ hk => hk.2) (.bool ((rd_T68 l0 x42_4).f1))) (fun _ hk => hk.2) (.string ((rd_T68 l0 x42_4).f2))) (fun _ hk => hk.2) (.string ((rd_T68 l0 x42_4).f3))) (fun _ hk => hk.2) (.string ((rd_T68 l0 x42_4).f4))) (fun _ hk => trivial)⟩, ⟨by (with_reducible repeat (first | apply Kd.R_alloc | apply Kd.R_drewN | apply Kd.R_drew)); exact Kd.R_mono (Kd.R_far (p := ⟨gb184, 4, none⟩) (Kd.R_far (p := ⟨gb184, 3, none⟩) (Kd.R_far (p := ⟨gb184, 2, none⟩) (Kd.R_far (p := ⟨gb184, 1, none⟩) (Kd.R_far (p := ⟨gb184, 0, none⟩) (Kd.R_types HO_34.out BK184.out (by decide)) (fun _ hk => hk.2) (.string ((rd_T68 l0 x42_4).f0))) (fun _ hk => hk.2) (.bool ((rd_T68 l0 x42_4).f1))) (fun _ hk => hk.2) (.string ((rd_T68 l0 x42_4).f2))) (fun _ hk => hk.2) (.string ((rd_T68 l0 x42_4).f3))) (fun _ hk => hk.2) (.string ((rd_T68 l0 x42_4).f4))) (fun _ hk => hk.1)⟩, ⟨by (with_reducible repeat (first | refine blk_drewN ?_ _ | refine blk_drew ?_ | refine blk_alloc ?_ _)); refine blk_far ?_ NB160_184.out _; (with_reducible repeat (first | refine blk_drewN ?_ _ | refine blk_drew ?_ | refine blk_alloc ?_ _)); refine blk_far ?_ NB160_184.out _; (with_reducible repeat (first | refine blk_drewN ?_ _ | refine blk_drew ?_ | refine blk_alloc ?_ _)); refine blk_far ?_ NB160_184.out _; (with_reducible repeat (first | refine blk_drewN ?_ _ | refine blk_drew ?_ | refine blk_alloc ?_ _)); refine blk_far ?_ NB160_184.out _; (with_reducible repeat (first | refine blk_drewN ?_ _ | refine blk_drew ?_ | refine blk_alloc ?_ _)); refine blk_far ?_ NB160_184.out _; (with_reducible repeat (first | refine blk_drewN ?_ _ | refine blk_drew ?_ | refine blk_alloc ?_ _)); exact BK160.out⟩, ⟨by (with_reducible repeat (first | refine blk_drewN ?_ _ | refine blk_drew ?_ | refine blk_alloc ?_ _)); refine blk_put (cs := #[.string ((rd_T68 l0 x42_4).f0), .bool ((rd_T68 l0 x42_4).f1), .string ((rd_T68 l0 x42_4).f2), .string ((rd_T68 l0 x42_4).f3), .string (⟨#[]⟩ : ByteArray)]) ?_ 4 _ rfl; (with_reducible repeat (first | refine blk_drewN ?_ _ | refine blk_drew ?_ | refine blk_alloc ?_ _)); refine blk_put (cs := #[.string ((rd_T68 l0 x42_4).f0), .bool ((rd_T68 l0 x42_4).f1), .string ((rd_T68 l0 x42_4).f2), .string (⟨#[]⟩ : ByteArray), .string (⟨#[]⟩ : ByteArray)]) ?_ 3 _ rfl; (with_reducible repeat (first | refine blk_drewN ?_ _ | refine blk_drew ?_ | refine blk_alloc ?_ _)); refine blk_put (cs := #[.string ((rd_T68 l0 x42_4).f0), .bool ((rd_T68 l0 x42_4).f1), .string (⟨#[]⟩ : ByteArray), .string (⟨#[]⟩ : ByteArray), .string (⟨#[]⟩ : ByteArray)]) ?_ 2 _ rfl; (with_reducible repeat (first | refine blk_drewN ?_ _ | refine blk_drew ?_ | refine blk_alloc ?_ _)); refine blk_put (cs := #[.string ((rd_T68 l0 x42_4).f0), .bool false, .string (⟨#[]⟩ : ByteArray), .string (⟨#[]⟩ : ByteArray), .string (⟨#[]⟩ : ByteArray)]) ?_ 1 _ rfl; (with_reducible repeat (first | refine blk_drewN ?_ _ | refine blk_drew ?_ | refine blk_alloc ?_ _)); refine blk_put (cs := #[.string (⟨#[]⟩ : ByteArray), .bool false, .string (⟨#[]⟩ : ByteArray), .string (⟨#[]⟩ : ByteArray), .string (⟨#[]⟩ : ByteArray)]) ?_ 0 _ rfl; (with_reducible repeat (first | refine blk_drewN ?_ _ | refine blk_drew ?_ | refine blk_alloc ?_ _)); exact BK184.out⟩, ⟨bl_⟩⟩
         case rest =>
          clear HC36
          (try clear c1);(try clear p1);(try clear q1);(try clear hx1);(try clear c2);(try clear p2);(try clear c3);(try clear c4);(try clear c6);(try clear c12);(try clear p17);(try clear q17);(try clear hx17);(try clear p18);(try clear q18);(try clear hx18);(try clear c21);(try clear c21b0);(try clear c22);(try clear c22b0);(try clear c23);(try clear c23b0);(try clear c24);(try clear c30);(try clear c30b0);(try clear c31);(try clear c31b0);(try clear c32);(try clear c32b0);(try clear c33);(try clear c33b0);(try clear c34);(try clear c34b0);(try clear c35);(try clear c35b0);(try clear c38);(try clear c40);(try clear c40b0);(try clear c40b1);(try clear c40b2);(try clear c41);(try clear c43);(try clear c44);(try clear hcz15_0);(try clear hcz15_1);(try clear hcz39_0);(try clear hcz39_1);(try clear hcz39_2);(try clear hcz39_3);(try clear hcz39_4);(try clear hcz42_0);(try clear hcz42_1);(try clear hcz42_2);(try clear hcz42_3);(try clear hcz42_4);(try clear hcz45_0);(try clear hcz45_1);(try clear hcz45_2);(try clear hcz45_3);(try clear hcz45_4);(try clear hcz46_0);(try clear hcz46_1);(try clear hcz9_0);(try clear hcz9_1);(try clear hfz15_0);(try clear hfz15_1);(try clear hfz39_0);(try clear hfz39_1);(try clear hfz39_2);(try clear hfz39_3);(try clear hfz39_4);(try clear hfz42_0);(try clear hfz42_1);(try clear hfz42_2);(try clear hfz42_3);(try clear hfz42_4);(try clear hfz45_0);(try clear hfz45_1);(try clear hfz45_2);(try clear hfz45_3);(try clear hfz45_4);(try clear hfz46_0);(try clear hfz46_1);(try clear hfz9_0);(try clear hfz9_1);(try clear hx175_0);(try clear hx182_0);(try clear hx183_0);(try clear hx183_1);(try clear hx183_2);(try clear hx183_3);(try clear hx183_4);(try clear p1);(try clear p17);(try clear p175);(try clear p18);(try clear p182);(try clear p183);(try clear p2);(try clear q1);(try clear q17);(try clear q175);(try clear q18);(try clear q182);(try clear q183)
          obtain ⟨kq, x57_35, rfl, HA, HJ35, HO_5, HO_26, HO_34, BK160, BK184, HB⟩ := hcut
          cases kq with
          | zero => exact absurd HA.out (by simp [impl_Forms.j4])
          | succ kj35 =>
           have H := HA.out
           clear HA
           simp only [impl_Forms.j4] at H
           replace H := itb_ H; rcases H with ⟨rfl, H⟩ | ⟨rfl, H⟩
           · have H' := Aside0.mk H
             clear H
             go_wp2
             go_roundg kj35
             case measure => have := HJ2.out; have := HK2.out; have := HK3.out; have := HK4.out; have := HJ35.out; omega
             case rel => exact ⟨(x5_4), (wrap64 (x42_4 + 1)), rf_, H', ⟨by have := HJ2.out; have := HK2.out; have := HK3.out; have := HK4.out; have := HJ35.out; omega⟩, ⟨kR_ HO_5⟩, ⟨kR_ HO_26⟩, ⟨kR_ HO_34⟩, ⟨by (with_reducible repeat (first | refine blk_drewN ?_ _ | refine blk_drew ?_ | refine blk_alloc ?_ _)); exact BK160.out⟩, ⟨bl_⟩⟩
           have HC48 := Aside0.mk H
           clear H
           go_upto_region 14 with (fail)
           go_cut [64] (fun v64 wc => ∃ (kq : Nat) (x64_47 : Bool), v64 = .bool x64_47 ∧ Aside0 (impl_Forms.j5 kq l0 x5_4 (rdOf false y169 x28_2) (rdOf ByteArray.empty y179 x36_3) y169 (y169.length : Int) x28_2 y179 (y179.length : Int) x36_3 l0 (l0.length : Int) x42_4 x64_47 a1_0 a1_1 ((rd_T68 l0 x42_4).f0) ((rd_T68 l0 x42_4).f1) ((rd_T68 l0 x42_4).f2) ((rd_T68 l0 x42_4).f3) ((rd_T68 l0 x42_4).f4) = some r) ∧ Aside0 (kq ≤ kj35) ∧ Aside0 (Kd.R Kd.string 9 wc w.heap.size (fun k_ => some k_ ≠ ((.slice (some ad182) y179.length co29) : Value).ownBlock) u5 x5_4) ∧ Aside0 (Kd.R Kd.bool 4 wc w.heap.size (fun _ => True) (.slice (some ad175) y169.length co20) y169) ∧ Aside0 (Kd.R Kd.string 9 wc w.heap.size (fun k_ => some k_ ≠ (u5 : Value).ownBlock) (.slice (some ad182) y179.length co29) y179) ∧ Aside0 (wc.heap[gb160]? = some (.cells #[.string a1_0, .string a1_1] 73 (0, 0))) ∧ Aside0 (wc.heap[gb184]? = some (.cells #[.string ((rd_T68 l0 x42_4).f0), .bool ((rd_T68 l0 x42_4).f1), .string ((rd_T68 l0 x42_4).f2), .string ((rd_T68 l0 x42_4).f3), .string ((rd_T68 l0 x42_4).f4)] 68 (0, 0))) ∧ Aside0 (Below w.heap.size w wc))
           case first =>
            have H := HC48.out
            clear HC48
            generalize rdOf false y169 x28_2 = bq49 at *
            replace H := itb_ H; rcases H with ⟨rfl, H⟩ | ⟨rfl, H⟩
            · have H' := Aside0.mk H
              clear H
              go_wp2
              go_meet
              case rel => exact ⟨_, (true), rf_, H', ⟨by have := HJ2.out; have := HK2.out; have := HK3.out; have := HK4.out; have := HJ35.out; first | omega | exact Nat.le_refl _⟩, ⟨kR_ HO_5⟩, ⟨kR_ HO_26⟩, ⟨kR_ HO_34⟩, ⟨by (with_reducible repeat (first | refine blk_drewN ?_ _ | refine blk_drew ?_ | refine blk_alloc ?_ _)); exact BK160.out⟩, ⟨by (with_reducible repeat (first | refine blk_drewN ?_ _ | refine blk_drew ?_ | refine blk_alloc ?_ _)); exact BK184.out⟩, ⟨bl_⟩⟩
            have H' := Aside0.mk H; clear H
            have hnb51 := NB160_184.out
            have hnc51 := NB184_160.out
            have hcz52_0 := bc0_ BK160
            have hcz52_1 := bc1_ BK160
            have hfz52_0 := blk_frozen BK160.out 0
            have hfz52_1 := blk_frozen BK160.out 1
            go_wp2
            go_meet
            case rel => exact ⟨_, (((rdOf ByteArray.empty y179 x36_3).toList == a1_0.toList)), rf_, H', ⟨by have := HJ2.out; have := HK2.out; have := HK3.out; have := HK4.out; have := HJ35.out; first | omega | exact Nat.le_refl _⟩, ⟨kR_ HO_5⟩, ⟨kR_ HO_26⟩, ⟨kR_ HO_34⟩, ⟨by (with_reducible repeat (first | refine blk_drewN ?_ _ | refine blk_drew ?_ | refine blk_alloc ?_ _)); exact BK160.out⟩, ⟨by (with_reducible repeat (first | refine blk_drewN ?_ _ | refine blk_drew ?_ | refine blk_alloc ?_ _)); exact BK184.out⟩, ⟨bl_⟩⟩
           case rest =>
            clear HC48
            (try clear c1);(try clear p1);(try clear q1);(try clear hx1);(try clear c2);(try clear p2);(try clear c3);(try clear c4);(try clear q4);(try clear c5);(try clear c6);(try clear p6);(try clear c12);(try clear p17);(try clear q17);(try clear hx17);(try clear p18);(try clear q18);(try clear hx18);(try clear c21);(try clear c21b0);(try clear c22);(try clear c22b0);(try clear c23);(try clear c23b0);(try clear c24);(try clear c30);(try clear c30b0);(try clear c31);(try clear c31b0);(try clear c32);(try clear c32b0);(try clear c33);(try clear c33b0);(try clear c34);(try clear c34b0);(try clear c35);(try clear c35b0);(try clear c38);(try clear c40);(try clear c40b0);(try clear c40b1);(try clear c40b2);(try clear c41);(try clear c43);(try clear c44);(try clear c47);(try clear q49);(try clear c50);(try clear c50b0);(try clear c51);(try clear hcz15_0);(try clear hcz15_1);(try clear hcz39_0);(try clear hcz39_1);(try clear hcz39_2);(try clear hcz39_3);(try clear hcz39_4);(try clear hcz42_0);(try clear hcz42_1);(try clear hcz42_2);(try clear hcz42_3);(try clear hcz42_4);(try clear hcz45_0);(try clear hcz45_1);(try clear hcz45_2);(try clear hcz45_3);(try clear hcz45_4);(try clear hcz46_0);(try clear hcz46_1);(try clear hcz52_0);(try clear hcz52_1);(try clear hcz9_0);(try clear hcz9_1);(try clear hfz15_0);(try clear hfz15_1);(try clear hfz39_0);(try clear hfz39_1);(try clear hfz39_2);(try clear hfz39_3);(try clear hfz39_4);(try clear hfz42_0);(try clear hfz42_1);(try clear hfz42_2);(try clear hfz42_3);(try clear hfz42_4);(try clear hfz45_0);(try clear hfz45_1);(try clear hfz45_2);(try clear hfz45_3);(try clear hfz45_4);(try clear hfz46_0);(try clear hfz46_1);(try clear hfz52_0);(try clear hfz52_1);(try clear hfz9_0);(try clear hfz9_1);(try clear hx175_0);(try clear hx182_0);(try clear hx183_0);(try clear hx183_1);(try clear hx183_2);(try clear hx183_3);(try clear hx183_4);(try clear p1);(try clear p17);(try clear p175);(try clear p18);(try clear p182);(try clear p183);(try clear p2);(try clear q1);(try clear q17);(try clear q175);(try clear q18);(try clear q182);(try clear q183)
            obtain ⟨kq, x64_47, rfl, HA, HJ47, HO_5, HO_26, HO_34, BK160, BK184, HB⟩ := hcut
            cases kq with
            | zero => exact absurd HA.out (by simp [impl_Forms.j5])
            | succ kj47 =>
             have H := HA.out
             clear HA
             simp only [impl_Forms.j5] at H
             replace H := iub_ H; rcases H with ⟨rfl, H⟩ | ⟨rfl, H⟩
             · have H' := Aside0.mk H
               clear H
               go_wp2
               go_roundg kj47
               case measure => have := HJ2.out; have := HK2.out; have := HK3.out; have := HK4.out; have := HJ35.out; have := HJ47.out; omega
               case rel => exact ⟨(x5_4), (wrap64 (x42_4 + 1)), rf_, H', ⟨by have := HJ2.out; have := HK2.out; have := HK3.out; have := HK4.out; have := HJ35.out; have := HJ47.out; omega⟩, ⟨kR_ HO_5⟩, ⟨kR_ HO_26⟩, ⟨kR_ HO_34⟩, ⟨by (with_reducible repeat (first | refine blk_drewN ?_ _ | refine blk_drew ?_ | refine blk_alloc ?_ _)); exact BK160.out⟩, ⟨bl_⟩⟩
             replace H := Option.bind_eq_some_iff.mp H
             obtain ⟨⟨t186, t187⟩, A540, H⟩ := H; try dsimp only at H
             have A54 := Aside0.mk A540
             clear A540
             replace H := iub_ H; rcases H with ⟨rfl, H⟩ | ⟨rfl, H⟩
             · have H' := Aside0.mk H
               clear H
               have hnb61 := NB184_160.out
               have hnc61 := NB160_184.out
               have hcz62_0 := bc0_ BK184
               have hcz62_1 := bc1_ BK184
               have hcz62_2 := bc2_ BK184
               have hcz62_3 := bc3_ BK184
               have hcz62_4 := bc4_ BK184
               have hfz62_0 := blk_frozen BK184.out 0
               have hfz62_1 := blk_frozen BK184.out 1
               have hfz62_2 := blk_frozen BK184.out 2
               have hfz62_3 := blk_frozen BK184.out 3
               have hfz62_4 := blk_frozen BK184.out 4
               go_wp2_with (first | ((with_reducible refine gate_callee (f := 70) rfl ?_); refine gl_ 68 Try.func70 #[.agg #[.string ((rd_T68 l0 x42_4).f0), .bool ((rd_T68 l0 x42_4).f1), .string ((rd_T68 l0 x42_4).f2), .string ((rd_T68 l0 x42_4).f3), .string ((rd_T68 l0 x42_4).f4)], .string (rdOf ByteArray.empty y179 x36_3)] ?_; (with_reducible refine (impl_AffixDo.calls kj47 ((rd_T68 l0 x42_4).f0) ((rd_T68 l0 x42_4).f1) ((rd_T68 l0 x42_4).f2) ((rd_T68 l0 x42_4).f3) ((rd_T68 l0 x42_4).f4) (rdOf ByteArray.empty y179 x36_3) t186 false _ A54.out).mono ?_); rintro e w63 ⟨rfl, hb⟩; refine ⟨_, rfl, ?_⟩; replace HO_5 := Aside0.mk (Kd.R_below (kR_ HO_5) hb); replace HO_26 := Aside0.mk (Kd.R_below (kR_ HO_26) hb); replace HO_34 := Aside0.mk (Kd.R_below (kR_ HO_34) hb); replace BK160 := Aside0.mk (blk_below (bk_ BK160) hb); replace BK184 := Aside0.mk (blk_below (bk_ BK184) hb); replace HB := Aside0.mk (below_step (bl_) hb); (try clear hb); (try clear hb2); (try clear hk); (try clear hi)))
               go_roundg kj47
               case measure => have := HJ2.out; have := HK2.out; have := HK3.out; have := HK4.out; have := HJ35.out; have := HJ47.out; omega
               case rel => exact ⟨(x5_4), (wrap64 (x42_4 + 1)), rf_, H', ⟨by have := HJ2.out; have := HK2.out; have := HK3.out; have := HK4.out; have := HJ35.out; have := HJ47.out; omega⟩, ⟨kR_ HO_5⟩, ⟨kR_ HO_26⟩, ⟨kR_ HO_34⟩, ⟨by (with_reducible repeat (first | refine blk_drewN ?_ _ | refine blk_drew ?_ | refine blk_alloc ?_ _)); exact BK160.out⟩, ⟨bl_⟩⟩
             replace H := inc_ H; obtain ⟨c56, H⟩ := H
             have LMc56 := Aside0.mk c56
             clear c56
             obtain ⟨y188, hy_⟩ : ∃ y_ : List ByteArray, y_ = (x5_4 ++ [t186]) := ⟨_, rfl⟩
             replace H : (impl_Forms.l2 kj47 l0 y188 (rdOf false y169 x28_2) (rdOf ByteArray.empty y179 x36_3) y169 (y169.length : Int) x28_2 y179 (y179.length : Int) x36_3 l0 (l0.length : Int) (wrap64 (x42_4 + 1)) a1_0 a1_1) = some r := ry_
             have Ny188 := Aside0.mk hy_; clear hy_
             have H' := Aside0.mk H; clear H
             have hnb57 := NB184_160.out
             have hnc57 := NB160_184.out
             have hcz58_0 := bc0_ BK184
             have hcz58_1 := bc1_ BK184
             have hcz58_2 := bc2_ BK184
             have hcz58_3 := bc3_ BK184
             have hcz58_4 := bc4_ BK184
             have hfz58_0 := blk_frozen BK184.out 0
             have hfz58_1 := blk_frozen BK184.out 1
             have hfz58_2 := blk_frozen BK184.out 2
             have hfz58_3 := blk_frozen BK184.out 3
             have hfz58_4 := blk_frozen BK184.out 4
             go_wp2_with (first | ((with_reducible refine gate_callee (f := 70) rfl ?_); refine gl_ 68 Try.func70 #[.agg #[.string ((rd_T68 l0 x42_4).f0), .bool ((rd_T68 l0 x42_4).f1), .string ((rd_T68 l0 x42_4).f2), .string ((rd_T68 l0 x42_4).f3), .string ((rd_T68 l0 x42_4).f4)], .string (rdOf ByteArray.empty y179 x36_3)] ?_; (with_reducible refine (impl_AffixDo.calls kj47 ((rd_T68 l0 x42_4).f0) ((rd_T68 l0 x42_4).f1) ((rd_T68 l0 x42_4).f2) ((rd_T68 l0 x42_4).f3) ((rd_T68 l0 x42_4).f4) (rdOf ByteArray.empty y179 x36_3) t186 true _ A54.out).mono ?_); rintro e w59 ⟨rfl, hb⟩; refine ⟨_, rfl, ?_⟩; replace HO_5 := Aside0.mk (Kd.R_below (kR_ HO_5) hb); replace HO_26 := Aside0.mk (Kd.R_below (kR_ HO_26) hb); replace HO_34 := Aside0.mk (Kd.R_below (kR_ HO_34) hb); replace BK160 := Aside0.mk (blk_below (bk_ BK160) hb); replace BK184 := Aside0.mk (blk_below (bk_ BK184) hb); replace HB := Aside0.mk (below_step (bl_) hb); (try clear hb); (try clear hb2); (try clear hk); (try clear hi)) | ((with_reducible refine gate_builtin (b := .append) (xs := #[.tmp 72, .tmp 74]) rfl ?_); at_builtin; refine Kd.R_append Kd.string (w0 := w) w.heap.size rfl (.tmp 72) (.tmp 74) 29 9 (.string ⟨#[]⟩) 16 rfl Try.underlying29 info9 rfl (by decide) (by omega) u5 x5_4 t186 [.string t186] (fun k_ => some k_ ≠ (.slice (some ad182) y179.length co29 : Value).ownBlock) (fun _ => False) rfl rfl ?aP (fun _ hk => hk.elim) ?aF ?aO ?aB ?aS ?aL ?_; (case aP => exact rfl); (case aB => exact (bl_)); (case aF => exact (fun k_ hk => Kd.fresh' (Kd.R_lt (kR_ HO_34)) k_ hk)); (case aO => exact (kR_ HO_5)); (case aS => exact (below_size (bl_))); (case aL => have := LMc56.out; omega); intro v189 w60 ho hb hg hat; rw [← Ny188.out] at ho; replace HO_26 := Aside0.mk (Kd.R_over' (kR_ HO_26) (Kd.R_typed (kR_ HO_5)) (by decide) hg); replace HO_34 := Aside0.mk (Kd.R_after (ok := (fun _ => True)) (by (with_reducible repeat (first | apply Kd.R_alloc | apply Kd.R_drewN | apply Kd.R_drew)); exact Kd.R_mono HO_34.out (fun _ hk => ⟨trivial, hk⟩)) hg hat); replace BK160 := Aside0.mk (blk_grown (bk_ BK160) hg (Kd.R_ne HO_5.out BK160.out (by decide))); replace BK184 := Aside0.mk (blk_grown (bk_ BK184) hg (Kd.R_ne HO_5.out BK184.out (by decide))); replace HB := Aside0.mk (hb); have HO190 := Aside0.mk (ho); clear HO_5; clear ho hb hg hat))
             go_roundg kj47
             case measure => have := HJ2.out; have := HK2.out; have := HK3.out; have := HK4.out; have := HJ35.out; have := HJ47.out; omega
             case rel => exact ⟨(y188), (wrap64 (x42_4 + 1)), rf_, H', ⟨by have := HJ2.out; have := HK2.out; have := HK3.out; have := HK4.out; have := HJ35.out; have := HJ47.out; omega⟩, ⟨kR_ HO190⟩, ⟨kR_ HO_26⟩, ⟨by (with_reducible repeat (first | apply Kd.R_alloc | apply Kd.R_drewN | apply Kd.R_drew)); exact Kd.R_mono HO_34.out (fun _ hk => hk.2)⟩, ⟨by (with_reducible repeat (first | refine blk_drewN ?_ _ | refine blk_drew ?_ | refine blk_alloc ?_ _)); exact BK160.out⟩, ⟨bl_⟩⟩

end Go.Proofs.Ytbopiacjioedeaa.P
