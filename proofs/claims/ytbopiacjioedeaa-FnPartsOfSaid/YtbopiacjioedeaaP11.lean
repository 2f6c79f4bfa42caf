-- Written by a program of this session (wip/gen/gen.py) out of Lean's print of the loaded program; Lean checks it.
import Derived.Test.YtbopiacjioedeaaP0
import Derived.Test.YtbopiacjioedeaaSq2
import Derived.Test.YtbopiacjioedeaaExtPut
import Derived.Test.YtbopiacjioedeaaP2
import Derived.Test.YtbopiacjioedeaaP10
namespace Go.Proofs.Ytbopiacjioedeaa.P
open Go.RowKit Go.Proofs.YtbopiacjioedeaaW.PrintWords Go.Proofs.YtbopiacjioedeaaW.PrintLast Go.Proofs.YtbopiacjioedeaaW.PrintMore
attribute [local go_sem] max2_int min2_int max_two min_two max_three min_three max_four min_four IntKind.wrap_u8 IntKind.wrap_u32 w64_256 w64_u32
set_option maxHeartbeats 8000000
set_option maxRecDepth 100000
set_option linter.unusedVariables false
set_option linter.unusedSimpArgs false

/-! ### spec_l2One: function 76 -/
mutual
def spec_l2One.l0 : Nat → List (S68) → ByteArray → Bool → List ByteArray → List ByteArray → Int → Option (List ByteArray)
 | 0, _, _, _, _, _, _ => none
 | k + 1, x0, x1, x2, x3, x9, x10 => if x10 < (x0.length : Int) then (if 0 ≤ x10 then (if (((rd_T68 x0 x10).f1) != x2) = true then (spec_l2One.j1 k x0 x1 x2 x3 x9 x10 true) else ((spec_l2Has.f k x1 ((rd_T68 x0 x10).f0)).bind fun t303 => (spec_l2One.j1 k x0 x1 x2 x3 x9 x10 (!t303)))) else (none)) else (some x9)
def spec_l2One.j1 : Nat → List (S68) → ByteArray → Bool → List ByteArray → List ByteArray → Int → Bool → Option (List ByteArray)
 | 0, _, _, _, _, _, _, _ => none
 | k + 1, x0, x1, x2, x3, x9, x10, x39 => if x39 = true then (spec_l2One.l0 k x0 x1 x2 x3 x9 (wrap64 (x10 + 1))) else (spec_l2One.l1 k x0 x1 x2 x3 x9 x10 0)
def spec_l2One.l1 : Nat → List (S68) → ByteArray → Bool → List ByteArray → List ByteArray → Int → Int → Option (List ByteArray)
 | 0, _, _, _, _, _, _, _ => none
 | k + 1, x0, x1, x2, x3, x9, x10, x11 => if x11 < (x3.length : Int) then (if 0 ≤ x10 then (if x10 < (x0.length : Int) then (if 0 ≤ x11 then ((spec_l2Do.f k ((rd_T68 x0 x10).f0) ((rd_T68 x0 x10).f1) ((rd_T68 x0 x10).f2) ((rd_T68 x0 x10).f3) ((rd_T68 x0 x10).f4) (rdOf ByteArray.empty x3 x11)).bind fun bt306 => (if bt306.2 = true then ((spec_l1Put.f k x9 bt306.1).bind fun t308 => (spec_l2One.l1 k x0 x1 x2 x3 t308 x10 (wrap64 (x11 + 1)))) else (spec_l2One.l1 k x0 x1 x2 x3 x9 x10 (wrap64 (x11 + 1))))) else (none)) else (none)) else (none)) else (spec_l2One.l0 k x0 x1 x2 x3 x9 (wrap64 (x10 + 1)))
end
def spec_l2One.f (k : Nat) (l0 : List (S68)) (a1 : ByteArray) (a2 : Bool) (l3 : List ByteArray) : Option (List ByteArray) := (some (([] : List ByteArray) : List ByteArray)).bind fun y295 => (if y295.length + l3.length < 8796093022208 then (spec_l2One.l0 k l0 a1 a2 l3 (y295 ++ l3) 0) else (none))
theorem spec_l2One.mono_l : ∀ k, (∀ y0 y1 y2 y3 y4 y5, LeO (spec_l2One.l0 k y0 y1 y2 y3 y4 y5) (spec_l2One.l0 (k + 1) y0 y1 y2 y3 y4 y5)) ∧ (∀ y0 y1 y2 y3 y4 y5 y6, LeO (spec_l2One.j1 k y0 y1 y2 y3 y4 y5 y6) (spec_l2One.j1 (k + 1) y0 y1 y2 y3 y4 y5 y6)) ∧ (∀ y0 y1 y2 y3 y4 y5 y6, LeO (spec_l2One.l1 k y0 y1 y2 y3 y4 y5 y6) (spec_l2One.l1 (k + 1) y0 y1 y2 y3 y4 y5 y6))
 | 0 => ⟨fun _ _ _ _ _ _ r h => by simp [spec_l2One.l0] at h, fun _ _ _ _ _ _ _ r h => by simp [spec_l2One.j1] at h, fun _ _ _ _ _ _ _ r h => by simp [spec_l2One.l1] at h⟩
 | k + 1 => by
  obtain ⟨ih0, ih1, ih2⟩ := spec_l2One.mono_l k
  refine ⟨?_, ?_, ?_⟩
  · intro y0 y1 y2 y3 y4 y5
    unfold spec_l2One.l0
    have m0 := @spec_l1Put.mono
    have m1 := @spec_l2Do.mono
    have m2 := @spec_l2Has.mono
    exact mn_
  · intro y0 y1 y2 y3 y4 y5 y6
    unfold spec_l2One.j1
    have m0 := @spec_l1Put.mono
    have m1 := @spec_l2Do.mono
    have m2 := @spec_l2Has.mono
    exact mn_
  · intro y0 y1 y2 y3 y4 y5 y6
    unfold spec_l2One.l1
    have m0 := @spec_l1Put.mono
    have m1 := @spec_l2Do.mono
    have m2 := @spec_l2Has.mono
    exact mn_
theorem spec_l2One.mono : ∀ a0 a1 a2 a3 k, LeO (spec_l2One.f k a0 a1 a2 a3) (spec_l2One.f (k + 1) a0 a1 a2 a3) := by
 intro a0 a1 a2 a3 k
 obtain ⟨ih0, ih1, ih2⟩ := spec_l2One.mono_l k
 unfold spec_l2One.f
 have m0 := @spec_l1Put.mono
 have m1 := @spec_l2Do.mono
 have m2 := @spec_l2Has.mono
 exact mn_
def spec_l2One.T9 : Bool × List (List Nat × List Nat) := (true, [([], []), ([], []), ([0, 1], [0, 1]), ([2], [2]), ([], []), ([], []), ([4, 5], [4, 5]), ([6], [6]), ([3, 7], [3, 7]), ([8], [8]), ([9], [9]), ([9], [9]), ([10, 8, 0, 1, 2, 3, 4, 5, 6, 7, 8, 9, 10], [10]), ([11, 12, 0, 1, 2, 3, 4, 5, 6, 7, 8, 9, 10, 11, 12], [11])])
def spec_l2One.B9 : List Nat := [0, 0, 3, 7, 0, 0, 48, 112, 255, 511, 1023, 1023, 2047, 8191]
theorem spec_l2One.tab9 : rtab .any (opsOf Try.f76 9) = spec_l2One.T9 := by kernel_rfl
theorem spec_l2One.bits9 : waitsOk spec_l2One.T9.2 spec_l2One.B9 = true := by kernel_rfl
theorem spec_l2One.calls (k : Nat) (A0 : Option Addr) (c0 : Nat) (l0 : List (S68)) (a1 : ByteArray) (a2 : Bool) (A3 : Option Addr) (c3 : Nat) (l3 : List ByteArray) (r : List ByteArray) (w : World) (hr0 : Kd.C k68 w A0 l0.length l0) (hc0 : l0.length ≤ c0) (hr3 : Kd.C Kd.string w A3 l3.length l3) (hc3 : l3.length ≤ c3) (h : spec_l2One.f k l0 a1 a2 l3 = some r) :
 Calls Try.prog 76 #[.slice A0 l0.length c0, .string a1, .bool a2, .slice A3 l3.length c3] w fun e w' => ∃ v0_ : Value, e = .returned (v0_) ∧ Kd.R Kd.string 9 w' w.heap.size (fun _ => True) v0_ r ∧ Below w.heap.size w w' := by
 have hu68 := Try.underlying68
 have HR0 := Aside0.mk hr0
 have HC0 := Aside0.mk hc0
 clear hr0 hc0
 have HR3 := Aside0.mk hr3
 have HC3 := Aside0.mk hc3
 clear hr3 hc3
 have HB := Aside0.mk (Below.refl w.heap.size w)
 unfold spec_l2One.f at h; have H := h; clear h
 obtain ⟨y295, hy_⟩ : ∃ y_ : List ByteArray, y_ = (([] : List ByteArray)) := ⟨_, rfl⟩
 replace H : (if y295.length + l3.length < 8796093022208 then (spec_l2One.l0 k l0 a1 a2 l3 (y295 ++ l3) 0) else (none)) = some r := ry_
 have Ny295 := Aside0.mk hy_; clear hy_
 replace H := inc_ H; obtain ⟨c5, H⟩ := H
 have LMc5 := Aside0.mk c5
 clear c5
 obtain ⟨y298, hy_⟩ : ∃ y_ : List ByteArray, y_ = (y295 ++ l3) := ⟨_, rfl⟩
 replace H : (spec_l2One.l0 k l0 a1 a2 l3 y298 0) = some r := ry_
 have Ny298 := Aside0.mk hy_; clear hy_
 have H' := Aside0.mk H; clear H
 go_enter Try.func76, Try.ntmps76
 go_wp2_with (first | ((with_reducible refine gate_dst (N := 14) rfl ?_); refine rl_ Kd.string 9 14 ([] : List ByteArray) [] ?_; intro v296 w6 ho7 hb hg_ hnew_; clear hg_ hnew_; (first | rw [← Ny295.out] at ho7 | (simp only [Int.reduceToNat] at ho7; rw [← Ny295.out] at ho7)); have HO297 := Aside0.mk (Kd.R_lower ho7 (below_size (bl_))); replace HB := Aside0.mk (below_step (bl_) hb); clear hb ho7) | ((with_reducible refine gate_builtin (b := .append) (xs := #[.tmp 14, .tmp 15]) rfl ?_); at_builtin; refine Kd.R_append_rows Kd.string (w0 := w) w.heap.size rfl (.tmp 14) (.tmp 15) 29 9 (.string ⟨#[]⟩) 16 rfl Try.underlying29 info9 rfl (by decide) (by omega) v296 y295 l3 _ _ _ (fun _ => True) (fun _ => False) rfl rfl ?aO ?aR (fun _ _ h => h) (fun _ h => h.elim) ?aF ?aB ?aS ?aL ?_; (case aR => exact cb_ HR3); (case aB => exact (bl_)); (case aF => exact (fun _ _ => trivial)); (case aO => exact (kR_ HO297)); (case aS => exact (below_size (bl_))); (case aL => have := LMc5.out; omega); intro v299 w8 ho hb hg hat; rw [← Ny298.out] at ho; replace HB := Aside0.mk (hb); have HO300 := Aside0.mk (ho); clear HO297; clear ho hb hg hat))
 go_loopg [9, 10] k (fun kq v9 v10 w' => ∃ (x9_1 : List ByteArray) (x10_1 : Int), v10 = .int .i64 x10_1 ∧ Aside0 (spec_l2One.l0 kq l0 a1 a2 l3 x9_1 x10_1 = some r) ∧ Aside0 (kq ≤ k) ∧ Aside0 (Kd.R Kd.string 9 w' w.heap.size (fun _ => True) v9 x9_1) ∧ Aside0 (Below w.heap.size w w'))
 case atStart => exact ⟨(y298), (0), rf_, H', ⟨Nat.le_refl _⟩, ⟨kR_ HO300⟩, ⟨bl_⟩⟩
 case round =>
  clear H'
  (try clear p2);(try clear c3);(try clear c5);(try clear c7)
  obtain ⟨x9_1, x10_1, rfl, HA, HK1, HO_9, HB⟩ := hrel
  cases gk with
  | zero => exact absurd HA.out (by simp [spec_l2One.l0])
  | succ k1 =>
   have H := HA.out
   clear HA
   simp only [spec_l2One.l0] at H
   replace H := iucd_ H; rcases H with ⟨c9b0, H⟩ | ⟨c9, H⟩
   · obtain rfl := Option.some.inj H
     go_wp2
     go_ret
     exact ⟨_, rfe_, kR_ HO_9, bl_⟩
   have c9b0 : decide (x10_1 < (l0.length : Int)) = true := decide_eq_true c9
   clear c9
   have HC10 := Aside0.mk H
   clear H
   go_upto_region 5 with (fail)
   go_cut [39] (fun v39 wc => ∃ (kq : Nat) (x39_9 : Bool), v39 = .bool x39_9 ∧ Aside0 (spec_l2One.j1 kq l0 a1 a2 l3 x9_1 x10_1 x39_9 = some r) ∧ Aside0 (kq ≤ k1) ∧ Aside0 (Kd.R Kd.string 9 wc w.heap.size (fun _ => True) u9 x9_1) ∧ Aside0 (Below w.heap.size w wc))
   case first =>
    have H := HC10.out
    clear HC10
    replace H := ind_ H; obtain ⟨c11b0, H⟩ := H
    (first | rw [c11b0] | (simp only [i64_w, i32_w]; rw [c11b0]) | skip)
    replace H := itcc_ H; rcases H with ⟨c12, H⟩ | ⟨c12, H⟩
    · have c12b0 : (((rd_T68 l0 x10_1).f1) != a2) = true := c12
      (try (have c12b1 : decide (((rd_T68 l0 x10_1).f1) = a2) = false := by simpa using c12))
      (try (have c12b2 : (((rd_T68 l0 x10_1).f1) == a2) = false := by simpa using c12))
      (try (have c12b3 : ¬ (((rd_T68 l0 x10_1).f1) = a2) := by simpa using c12))
      clear c12
      have H' := Aside0.mk H; clear H
      have p301 : 0 ≤ (x10_1 : Int) := od_
      have q301 : x10_1 < (l0.length : Int) := od_
      obtain ⟨ad301, e301, hx301_0, hx301_1, hx301_2, hx301_3, hx301_4⟩ := at_T68 HR0.out x10_1 p301 q301
      cases e301
      replace hx301_0 := hc_ HB hx301_0
      replace hx301_1 := hc_ HB hx301_1
      replace hx301_2 := hc_ HB hx301_2
      replace hx301_3 := hc_ HB hx301_3
      replace hx301_4 := hc_ HB hx301_4
      replace p301 := eq_true p301; replace q301 := eq_true q301
      go_wp2
      go_meet
      case rel => exact ⟨_, (true), rf_, H', ⟨by have := HK1.out; first | omega | exact Nat.le_refl _⟩, ⟨kR_ HO_9⟩, ⟨bl_⟩⟩
    have c12b0 : (((rd_T68 l0 x10_1).f1) != a2) = false := by simpa using c12
    (try (have c12b1 : decide (((rd_T68 l0 x10_1).f1) = a2) = true := by simpa using c12))
    (try (have c12b2 : (((rd_T68 l0 x10_1).f1) == a2) = true := by simpa using c12))
    clear c12
    replace H := Option.bind_eq_some_iff.mp H
    obtain ⟨t303, A130, H⟩ := H; try dsimp only at H
    have A13 := Aside0.mk A130
    clear A130
    have H' := Aside0.mk H; clear H
    have p301 : 0 ≤ (x10_1 : Int) := od_
    have q301 : x10_1 < (l0.length : Int) := od_
    obtain ⟨ad301, e301, hx301_0, hx301_1, hx301_2, hx301_3, hx301_4⟩ := at_T68 HR0.out x10_1 p301 q301
    cases e301
    replace hx301_0 := hc_ HB hx301_0
    replace hx301_1 := hc_ HB hx301_1
    replace hx301_2 := hc_ HB hx301_2
    replace hx301_3 := hc_ HB hx301_3
    replace hx301_4 := hc_ HB hx301_4
    replace p301 := eq_true p301; replace q301 := eq_true q301
    have p302 : 0 ≤ (x10_1 : Int) := od_
    have q302 : x10_1 < (l0.length : Int) := od_
    obtain ⟨ad302, e302, hx302_0, hx302_1, hx302_2, hx302_3, hx302_4⟩ := at_T68 HR0.out x10_1 p302 q302
    obtain rfl : ad301 = ad302 := (by injection e302)
    replace hx302_0 := hc_ HB hx302_0
    replace hx302_1 := hc_ HB hx302_1
    replace hx302_2 := hc_ HB hx302_2
    replace hx302_3 := hc_ HB hx302_3
    replace hx302_4 := hc_ HB hx302_4
    replace p302 := eq_true p302; replace q302 := eq_true q302
    go_wp2_with (first | (go_at_call 87; (with_reducible refine (spec_l2Has.calls k1 a1 ((rd_T68 l0 x10_1).f0) t303 _ A13.out).mono ?_); rintro e w' ⟨rfl, ⟨nd, rfl⟩⟩))
    go_meet
    case rel => exact ⟨_, (!t303), rf_, H', ⟨by have := HK1.out; first | omega | exact Nat.le_refl _⟩, ⟨kR_ HO_9⟩, ⟨bl_⟩⟩
   case rest =>
    clear HC10
    (try clear c1);(try clear p2);(try clear c3);(try clear p3);(try clear q3);(try clear hx3);(try clear c5);(try clear c7);(try clear c9);(try clear c9b0);(try clear c11);(try clear c11b0);(try clear c12);(try clear c12b0);(try clear c12b1);(try clear c12b2);(try clear hx301_0);(try clear hx301_1);(try clear hx301_2);(try clear hx301_3);(try clear hx301_4);(try clear hx302_0);(try clear hx302_1);(try clear hx302_2);(try clear hx302_3);(try clear hx302_4);(try clear p2);(try clear p301);(try clear p302);(try clear q301);(try clear q302)
    obtain ⟨kq, x39_9, rfl, HA, HJ9, HO_9, HB⟩ := hcut
    cases kq with
    | zero => exact absurd HA.out (by simp [spec_l2One.j1])
    | succ kj9 =>
     have H := HA.out
     clear HA
     simp only [spec_l2One.j1] at H
     replace H := itb_ H; rcases H with ⟨rfl, H⟩ | ⟨rfl, H⟩
     · have H' := Aside0.mk H
       clear H
       go_wp2
       go_roundg kj9
       case measure => have := HK1.out; have := HJ9.out; omega
       case rel => exact ⟨(x9_1), (wrap64 (x10_1 + 1)), rf_, H', ⟨by have := HK1.out; have := HJ9.out; omega⟩, ⟨kR_ HO_9⟩, ⟨bl_⟩⟩
     have H' := Aside0.mk H; clear H
     go_wp2
     go_loopg [9, 11] kj9 (fun kq v9 v11 w' => ∃ (x9_3 : List ByteArray) (x11_3 : Int), v11 = .int .i64 x11_3 ∧ Aside0 (spec_l2One.l1 kq l0 a1 a2 l3 x9_3 x10_1 x11_3 = some r) ∧ Aside0 (kq ≤ kj9) ∧ Aside0 (Kd.R Kd.string 9 w' w.heap.size (fun _ => True) v9 x9_3) ∧ Aside0 (Below w.heap.size w w'))
     case atStart => exact ⟨(x9_1), (0), rf_, H', ⟨Nat.le_refl _⟩, ⟨kR_ HO_9⟩, ⟨bl_⟩⟩
     case round =>
      clear H'
      (try clear c1);(try clear p2);(try clear c3);(try clear p3);(try clear q3);(try clear hx3);(try clear c5);(try clear p6);(try clear c7);(try clear c9);(try clear c9b0);(try clear c11);(try clear c11b0);(try clear c12);(try clear c12b0);(try clear c12b1);(try clear c12b2);(try clear c14);(try clear hx301_0);(try clear hx301_1);(try clear hx301_2);(try clear hx301_3);(try clear hx301_4);(try clear hx302_0);(try clear hx302_1);(try clear hx302_2);(try clear hx302_3);(try clear hx302_4);(try clear p2);(try clear p3);(try clear p301);(try clear p302);(try clear q3);(try clear q301);(try clear q302)
      obtain ⟨x9_3, x11_3, rfl, HA, HK3, HO_9, HB⟩ := hrel
      cases gk with
      | zero => exact absurd HA.out (by simp [spec_l2One.l1])
      | succ k3 =>
       have H := HA.out
       clear HA
       simp only [spec_l2One.l1] at H
       replace H := iudd_ H; rcases H with ⟨c15b0, H⟩ | ⟨c15b0, H⟩
       · have H' := Aside0.mk H
         clear H
         go_wp2
         go_roundg k3
         case measure => have := HK1.out; have := HJ9.out; have := HK3.out; omega
         case rel => exact ⟨(x9_3), (wrap64 (x10_1 + 1)), rf_, H', ⟨by have := HK1.out; have := HJ9.out; have := HK3.out; omega⟩, ⟨kR_ HO_9⟩, ⟨bl_⟩⟩
       replace H := ind_ H; obtain ⟨c16b0, H⟩ := H
       replace H := ind_ H; obtain ⟨c17b0, H⟩ := H
       replace H := ind_ H; obtain ⟨c18b0, H⟩ := H
       replace H := Option.bind_eq_some_iff.mp H
       obtain ⟨⟨t306, t307⟩, A190, H⟩ := H; try dsimp only at H
       have A19 := Aside0.mk A190
       clear A190
       replace H := iub_ H; rcases H with ⟨rfl, H⟩ | ⟨rfl, H⟩
       · have H' := Aside0.mk H
         clear H
         try go_wp2
         replace HO_9 := Aside0.mk (Kd.R_drew HO_9.out)
         replace HB := Aside0.mk (below_drew1 HB.out)
         have p304 : 0 ≤ (x10_1 : Int) := od_
         have q304 : x10_1 < (l0.length : Int) := od_
         obtain ⟨ad304, e304, hx304_0, hx304_1, hx304_2, hx304_3, hx304_4⟩ := at_T68 HR0.out x10_1 p304 q304
         have hw304_4 := hx304_4
         have hw304_3 := hx304_3
         have hw304_2 := hx304_2
         have hw304_1 := hx304_1
         have hw304_0 := hx304_0
         cases e304
         replace hx304_0 := hc_ HB hx304_0
         replace hx304_1 := hc_ HB hx304_1
         replace hx304_2 := hc_ HB hx304_2
         replace hx304_3 := hc_ HB hx304_3
         replace hx304_4 := hc_ HB hx304_4
         replace p304 := eq_true p304; replace q304 := eq_true q304
         have p305 : 0 ≤ (x11_3 : Int) := od_
         have q305 : x11_3 < (l3.length : Int) := od_
         obtain ⟨ad305, e305, hx305_0⟩ := Kd.at_string HR3.out x11_3 p305 q305
         have hw305_0 := hx305_0
         cases e305
         replace hx305_0 := hc_ HB hx305_0
         replace p305 := eq_true p305; replace q305 := eq_true q305
         refine start_ (n := 14) (S := fun w' => w'.cell? (ad304.add ((x10_1).toNat * 5)) = some (.string ((rd_T68 l0 x10_1).f0)) ∧ w'.cell? ⟨(ad304.add ((x10_1).toNat * 5)).block, (ad304.add ((x10_1).toNat * 5)).off + 1, none⟩ = some (.bool ((rd_T68 l0 x10_1).f1)) ∧ w'.cell? ⟨(ad304.add ((x10_1).toNat * 5)).block, (ad304.add ((x10_1).toNat * 5)).off + 2, none⟩ = some (.string ((rd_T68 l0 x10_1).f2)) ∧ w'.cell? ⟨(ad304.add ((x10_1).toNat * 5)).block, (ad304.add ((x10_1).toNat * 5)).off + 3, none⟩ = some (.string ((rd_T68 l0 x10_1).f3)) ∧ w'.cell? ⟨(ad304.add ((x10_1).toNat * 5)).block, (ad304.add ((x10_1).toNat * 5)).off + 4, none⟩ = some (.string ((rd_T68 l0 x10_1).f4)) ∧ w'.cell? (ad305.add (x11_3).toNat) = some (.string (rdOf ByteArray.empty l3 x11_3))) (ds := []) (bm 14 0) (by kernel_rfl) rfl rfl ⟨((HB.out.cell (World.block_lt_of_cell? w _ hw304_0)).trans hw304_0), ((HB.out.cell (World.block_lt_of_cell? w _ hw304_1)).trans hw304_1), ((HB.out.cell (World.block_lt_of_cell? w _ hw304_2)).trans hw304_2), ((HB.out.cell (World.block_lt_of_cell? w _ hw304_3)).trans hw304_3), ((HB.out.cell (World.block_lt_of_cell? w _ hw304_4)).trans hw304_4), ((HB.out.cell (World.block_lt_of_cell? w _ hw305_0)).trans hw305_0)⟩ (fun hHeld => ?_); refine with_tabW spec_l2One.tab9 spec_l2One.bits9 (fun HT_ HW_ => ?_)
         generalize wr.drew = w26 at HO_9 HB hx304_0 hx304_1 hx304_2 hx304_3 hx304_4 hx305_0 hHeld ⊢
         refine sp_ 0 (some 47) (bm 14 1) HT_ (h := ?_)
         refine sp_ 1 (some 48) (bm 14 3) HT_ (h := ?_)
         refine sp_ 2 (some 49) (bm 14 7) HT_ (h := ?_)
         refine sp_ 4 (some 51) (bm 14 23) HT_ (h := ?_)
         refine sp_ 5 (some 52) (bm 14 55) HT_ (h := ?_)
         refine sp_ 6 (some 53) (bm 14 119) HT_ (h := ?_)
         refine sr_ 3 (some 50) (bm 14 127) HT_ HW_ hHeld (h := ?_)
         refine sr_ 7 (some 54) (bm 14 255) HT_ HW_ hHeld (h := ?_)
         refine sn_ 8 (some 55) (bm 14 511) HT_ (fun K hK => ?_)
         refine goes_ Try.func88 (by kernel_rfl) rfl #[.agg #[.string ((rd_T68 l0 x10_1).f0), .bool ((rd_T68 l0 x10_1).f1), .string ((rd_T68 l0 x10_1).f2), .string ((rd_T68 l0 x10_1).f3), .string ((rd_T68 l0 x10_1).f4)], .string (rdOf ByteArray.empty l3 x11_3)] (by rfl) rfl rfl (by (try simp only [List.map_toArray, List.map_cons, List.map_nil]); first | done | rfl | (simp only [List.length_drop, List.length_take]; rfl)) ?_
         with_reducible refine (spec_l2Do.calls k3 ((rd_T68 l0 x10_1).f0) ((rd_T68 l0 x10_1).f1) ((rd_T68 l0 x10_1).f2) ((rd_T68 l0 x10_1).f3) ((rd_T68 l0 x10_1).f4) (rdOf ByteArray.empty l3 x11_3) t306 false _ A19.out).mono ?_
         rintro e w27 ⟨rfl, hb⟩
         refine ⟨_, rfl, ?_⟩
         replace HO_9 := Aside0.mk (Kd.R_below (kR_ HO_9) hb)
         replace HB := Aside0.mk (below_step (bl_) hb)
         (try clear hb)
         (try clear hb2)
         (try clear hk)
         (try clear hi)
         refine hK.out _ _ ⟨((HB.out.cell (World.block_lt_of_cell? w _ hw304_0)).trans hw304_0), ((HB.out.cell (World.block_lt_of_cell? w _ hw304_1)).trans hw304_1), ((HB.out.cell (World.block_lt_of_cell? w _ hw304_2)).trans hw304_2), ((HB.out.cell (World.block_lt_of_cell? w _ hw304_3)).trans hw304_3), ((HB.out.cell (World.block_lt_of_cell? w _ hw304_4)).trans hw304_4), ((HB.out.cell (World.block_lt_of_cell? w _ hw305_0)).trans hw305_0)⟩ (fun hHeld => ?_)
         clear hK K
         refine nm_ ?_
         refine sp_ 9 (some 46) (bm 14 1023) HT_ (h := ?_)
         refine sp_ 10 (some 56) (bm 14 2047) HT_ (h := ?_)
         refine sp_ 11 (some 57) (bm 14 4095) HT_ (h := ?_)
         refine sp_ 12 (some 12) (bm 14 8191) HT_ (h := ?_)
         refine sp_ 13 (some 13) (bm 14 16383) HT_ (h := ?_)
         refine done_ (done_of HT_.out (by kernel_rfl)) ?_
         try go_wp2
         go_roundg k3
         case measure => have := HK1.out; have := HJ9.out; have := HK3.out; omega
         case rel => exact ⟨(x9_3), (wrap64 (x11_3 + 1)), rf_, H', ⟨by have := HK1.out; have := HJ9.out; have := HK3.out; omega⟩, ⟨kR_ HO_9⟩, ⟨bl_⟩⟩
       replace H := Option.bind_eq_some_iff.mp H
       obtain ⟨t308, A210, H⟩ := H; try dsimp only at H
       have A21 := Aside0.mk A210
       clear A210
       have H' := Aside0.mk H; clear H
       try go_wp2
       replace HO_9 := Aside0.mk (Kd.R_drew HO_9.out)
       replace HB := Aside0.mk (below_drew1 HB.out)
       have p304 : 0 ≤ (x10_1 : Int) := od_
       have q304 : x10_1 < (l0.length : Int) := od_
       obtain ⟨ad304, e304, hx304_0, hx304_1, hx304_2, hx304_3, hx304_4⟩ := at_T68 HR0.out x10_1 p304 q304
       have hw304_4 := hx304_4
       have hw304_3 := hx304_3
       have hw304_2 := hx304_2
       have hw304_1 := hx304_1
       have hw304_0 := hx304_0
       cases e304
       replace hx304_0 := hc_ HB hx304_0
       replace hx304_1 := hc_ HB hx304_1
       replace hx304_2 := hc_ HB hx304_2
       replace hx304_3 := hc_ HB hx304_3
       replace hx304_4 := hc_ HB hx304_4
       replace p304 := eq_true p304; replace q304 := eq_true q304
       have p305 : 0 ≤ (x11_3 : Int) := od_
       have q305 : x11_3 < (l3.length : Int) := od_
       obtain ⟨ad305, e305, hx305_0⟩ := Kd.at_string HR3.out x11_3 p305 q305
       have hw305_0 := hx305_0
       cases e305
       replace hx305_0 := hc_ HB hx305_0
       replace p305 := eq_true p305; replace q305 := eq_true q305
       refine start_ (n := 14) (S := fun w' => w'.cell? (ad304.add ((x10_1).toNat * 5)) = some (.string ((rd_T68 l0 x10_1).f0)) ∧ w'.cell? ⟨(ad304.add ((x10_1).toNat * 5)).block, (ad304.add ((x10_1).toNat * 5)).off + 1, none⟩ = some (.bool ((rd_T68 l0 x10_1).f1)) ∧ w'.cell? ⟨(ad304.add ((x10_1).toNat * 5)).block, (ad304.add ((x10_1).toNat * 5)).off + 2, none⟩ = some (.string ((rd_T68 l0 x10_1).f2)) ∧ w'.cell? ⟨(ad304.add ((x10_1).toNat * 5)).block, (ad304.add ((x10_1).toNat * 5)).off + 3, none⟩ = some (.string ((rd_T68 l0 x10_1).f3)) ∧ w'.cell? ⟨(ad304.add ((x10_1).toNat * 5)).block, (ad304.add ((x10_1).toNat * 5)).off + 4, none⟩ = some (.string ((rd_T68 l0 x10_1).f4)) ∧ w'.cell? (ad305.add (x11_3).toNat) = some (.string (rdOf ByteArray.empty l3 x11_3))) (ds := []) (bm 14 0) (by kernel_rfl) rfl rfl ⟨((HB.out.cell (World.block_lt_of_cell? w _ hw304_0)).trans hw304_0), ((HB.out.cell (World.block_lt_of_cell? w _ hw304_1)).trans hw304_1), ((HB.out.cell (World.block_lt_of_cell? w _ hw304_2)).trans hw304_2), ((HB.out.cell (World.block_lt_of_cell? w _ hw304_3)).trans hw304_3), ((HB.out.cell (World.block_lt_of_cell? w _ hw304_4)).trans hw304_4), ((HB.out.cell (World.block_lt_of_cell? w _ hw305_0)).trans hw305_0)⟩ (fun hHeld => ?_); refine with_tabW spec_l2One.tab9 spec_l2One.bits9 (fun HT_ HW_ => ?_)
       generalize wr.drew = w22 at HO_9 HB hx304_0 hx304_1 hx304_2 hx304_3 hx304_4 hx305_0 hHeld ⊢
       refine sp_ 0 (some 47) (bm 14 1) HT_ (h := ?_)
       refine sp_ 1 (some 48) (bm 14 3) HT_ (h := ?_)
       refine sp_ 2 (some 49) (bm 14 7) HT_ (h := ?_)
       refine sp_ 4 (some 51) (bm 14 23) HT_ (h := ?_)
       refine sp_ 5 (some 52) (bm 14 55) HT_ (h := ?_)
       refine sp_ 6 (some 53) (bm 14 119) HT_ (h := ?_)
       refine sr_ 3 (some 50) (bm 14 127) HT_ HW_ hHeld (h := ?_)
       refine sr_ 7 (some 54) (bm 14 255) HT_ HW_ hHeld (h := ?_)
       refine sn_ 8 (some 55) (bm 14 511) HT_ (fun K hK => ?_)
       refine goes_ Try.func88 (by kernel_rfl) rfl #[.agg #[.string ((rd_T68 l0 x10_1).f0), .bool ((rd_T68 l0 x10_1).f1), .string ((rd_T68 l0 x10_1).f2), .string ((rd_T68 l0 x10_1).f3), .string ((rd_T68 l0 x10_1).f4)], .string (rdOf ByteArray.empty l3 x11_3)] (by rfl) rfl rfl (by (try simp only [List.map_toArray, List.map_cons, List.map_nil]); first | done | rfl | (simp only [List.length_drop, List.length_take]; rfl)) ?_
       with_reducible refine (spec_l2Do.calls k3 ((rd_T68 l0 x10_1).f0) ((rd_T68 l0 x10_1).f1) ((rd_T68 l0 x10_1).f2) ((rd_T68 l0 x10_1).f3) ((rd_T68 l0 x10_1).f4) (rdOf ByteArray.empty l3 x11_3) t306 true _ A19.out).mono ?_
       rintro e w23 ⟨rfl, hb⟩
       refine ⟨_, rfl, ?_⟩
       replace HO_9 := Aside0.mk (Kd.R_below (kR_ HO_9) hb)
       replace HB := Aside0.mk (below_step (bl_) hb)
       (try clear hb)
       (try clear hb2)
       (try clear hk)
       (try clear hi)
       refine hK.out _ _ ⟨((HB.out.cell (World.block_lt_of_cell? w _ hw304_0)).trans hw304_0), ((HB.out.cell (World.block_lt_of_cell? w _ hw304_1)).trans hw304_1), ((HB.out.cell (World.block_lt_of_cell? w _ hw304_2)).trans hw304_2), ((HB.out.cell (World.block_lt_of_cell? w _ hw304_3)).trans hw304_3), ((HB.out.cell (World.block_lt_of_cell? w _ hw304_4)).trans hw304_4), ((HB.out.cell (World.block_lt_of_cell? w _ hw305_0)).trans hw305_0)⟩ (fun hHeld => ?_)
       clear hK K
       refine nm_ ?_
       refine sp_ 9 (some 46) (bm 14 1023) HT_ (h := ?_)
       refine sp_ 10 (some 56) (bm 14 2047) HT_ (h := ?_)
       refine sp_ 11 (some 57) (bm 14 4095) HT_ (h := ?_)
       refine sp_ 12 (some 12) (bm 14 8191) HT_ (h := ?_)
       refine sp_ 13 (some 13) (bm 14 16383) HT_ (h := ?_)
       refine done_ (done_of HT_.out (by kernel_rfl)) ?_
       obtain ⟨Ao24, co24, eo24⟩ := Kd.R_slice HO_9.out
       subst eo24
       try go_wp2_with (first | ((with_reducible refine gate_callee (f := 54) rfl ?_); refine gl_ 61 Try.func54 #[.slice Ao24 x9_3.length co24, .string t306] ?_; (with_reducible refine (spec_l1Put.calls k3 (fun k_ => some k_ = (.slice Ao24 x9_3.length co24 : Value).ownBlock) (.slice Ao24 x9_3.length co24) x9_3 t306 t308 w _ ?side1 ?side2 A21.out).mono ?_); (case side1 => exact bs_); (case side2 => exact Kd.R_tight rfl HO_9.out); rintro e w25 ⟨v309, rfl, ho0, hb, hkp⟩; refine ⟨_, rfl, ?_⟩; have HO310 := Aside0.mk (Kd.R_mono (ok' := fun k_ => True) ho0 (fun k_ hk_ => trivial)); replace HB := Aside0.mk (hb); clear HO_9; (try clear hb); (try clear hkp); (try clear ho0)))
       go_roundg k3
       case measure => have := HK1.out; have := HJ9.out; have := HK3.out; omega
       case rel => exact ⟨(t308), (wrap64 (x11_3 + 1)), rf_, H', ⟨by have := HK1.out; have := HJ9.out; have := HK3.out; omega⟩, ⟨kR_ HO310⟩, ⟨bl_⟩⟩

end Go.Proofs.Ytbopiacjioedeaa.P
