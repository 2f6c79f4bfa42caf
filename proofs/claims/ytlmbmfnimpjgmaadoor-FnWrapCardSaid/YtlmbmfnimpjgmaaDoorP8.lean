-- Written by a program of this session (wip/gen/gen.py) out of Lean's print of the loaded program; Lean checks it.
import Derived.Test.YtlmbmfnimpjgmaaDoorP0
import Derived.Test.YtlmbmfnimpjgmaaDoorSq2
import Derived.Test.YtlmbmfnimpjgmaaDoorP5
import Derived.Test.YtlmbmfnimpjgmaaDoorP6
import Derived.Test.YtlmbmfnimpjgmaaDoorP7
namespace Go.Proofs.YtlmbmfnimpjgmaaDoor.P
open Go.RowKit Go.Proofs.YtlmbmfnimpjgmaaDoorW.PrintWords Go.Proofs.YtlmbmfnimpjgmaaDoorW.PrintLast Go.Proofs.YtlmbmfnimpjgmaaDoorW.PrintMore
attribute [local go_sem] max2_int min2_int max_two min_two max_three min_three max_four min_four IntKind.wrap_u8 IntKind.wrap_u32 w64_256 w64_u32
set_option maxHeartbeats 8000000
set_option maxRecDepth 100000
set_option linter.unusedVariables false
set_option linter.unusedSimpArgs false

/-! ### impl_Wrap: function 12 -/
mutual
def impl_Wrap.j0 : Nat → List (S42) → List ByteArray → Int → Bool → Option (List ByteArray × Bool)
 | 0, _, _, _, _ => none
 | k + 1, x0, x1, x2, x30 => if x30 = true then (some ((([] : List ByteArray)), false)) else (impl_Wrap.l0 k x0 x1 x2 x1 (x1.length : Int) 0)
def impl_Wrap.l0 : Nat → List (S42) → List ByteArray → Int → List ByteArray → Int → Int → Option (List ByteArray × Bool)
 | 0, _, _, _, _, _, _ => none
 | k + 1, x0, x1, x2, x32, x33, x34 => if x34 < x33 then (if 0 ≤ x34 then (if x34 < (x32.length : Int) then ((impl_WordOk.f k (rdOf ByteArray.empty x32 x34)).bind fun t332 => (if t332 = true then (impl_Wrap.l0 k x0 x1 x2 x32 x33 (wrap64 (x34 + 1))) else (some ((([] : List ByteArray)), false)))) else (none)) else (none)) else (impl_Wrap.l1 k x0 x1 x2 (([] : List ByteArray)) (⟨#[]⟩ : ByteArray) x1 (x1.length : Int) 0)
def impl_Wrap.l1 : Nat → List (S42) → List ByteArray → Int → List ByteArray → ByteArray → List ByteArray → Int → Int → Option (List ByteArray × Bool)
 | 0, _, _, _, _, _, _, _, _ => none
 | k + 1, x0, x1, x2, x10, x11, x44, x45, x46 => if x46 < x45 then (if 0 ≤ x46 then (if x46 < (x44.length : Int) then (if x46 > 0 then (if x11.size + 1 ≤ 9223372036854775807 then (impl_Wrap.j3 k x0 x1 x2 x10 x11 (rdOf ByteArray.empty x44 x46) (x11 ++ (⟨#[32]⟩ : ByteArray)) x44 x45 x46) else (none)) else (impl_Wrap.j3 k x0 x1 x2 x10 x11 (rdOf ByteArray.empty x44 x46) x11 x44 x45 x46)) else (none)) else (none)) else (if (x1.length : Int) > 0 then (if x10.length < 8796093022208 then (some ((x10 ++ [x11]), true)) else (none)) else (some (x10, true)))
def impl_Wrap.j3 : Nat → List (S42) → List ByteArray → Int → List ByteArray → ByteArray → ByteArray → ByteArray → List ByteArray → Int → Int → Option (List ByteArray × Bool)
 | 0, _, _, _, _, _, _, _, _, _, _ => none
 | k + 1, x0, x1, x2, x10, x11, x13, x14, x44, x45, x46 => if (wrap64 ((x14.size : Int) + (x13.size : Int))) ≤ x2 then (if x14.size + x13.size ≤ 9223372036854775807 then (impl_Wrap.l1 k x0 x1 x2 x10 (x14 ++ x13) x44 x45 (wrap64 (x46 + 1))) else (none)) else ((impl_SplitAt.f k x0 x13).bind fun t343 => (impl_Wrap.l2 k x0 x1 x2 x10 x11 x13 x14 x13 x44 x45 x46 t343 (t343.length : Int) 0))
def impl_Wrap.l2 : Nat → List (S42) → List ByteArray → Int → List ByteArray → ByteArray → ByteArray → ByteArray → ByteArray → List ByteArray → Int → Int → List Int → Int → Int → Option (List ByteArray × Bool)
 | 0, _, _, _, _, _, _, _, _, _, _, _, _, _, _ => none
 | k + 1, x0, x1, x2, x10, x11, x13, x14, x15, x44, x45, x46, x69, x70, x71 => if x71 < x70 then (if 0 ≤ x71 then (if x71 < (x69.length : Int) then (if (wrap64 ((wrap64 ((x14.size : Int) + (rd x69 x71))) + 1)) ≤ x2 then (if 0 ≤ (rd x69 x71) then (if (rd x69 x71) ≤ (x13.size : Int) then (if x14.size + ((rd x69 x71) : Int).toNat ≤ 9223372036854775807 then (if x14.size + ((rd x69 x71) : Int).toNat + 1 ≤ 9223372036854775807 then (impl_Wrap.l2 k x0 x1 x2 x10 ((x14 ++ (x13.extract 0 ((rd x69 x71) : Int).toNat)) ++ (⟨#[45]⟩ : ByteArray)) x13 x14 (x13.extract ((rd x69 x71) : Int).toNat x13.size) x44 x45 x46 x69 x70 (wrap64 (x71 + 1))) else (none)) else (none)) else (none)) else (none)) else (impl_Wrap.l2 k x0 x1 x2 x10 x11 x13 x14 x15 x44 x45 x46 x69 x70 (wrap64 (x71 + 1)))) else (none)) else (none)) else (if x10.length < 8796093022208 then (impl_Wrap.l1 k x0 x1 x2 (x10 ++ [x11]) x15 x44 x45 (wrap64 (x46 + 1))) else (none))
end
def impl_Wrap.f (k : Nat) (l0 : List (S42)) (l1 : List ByteArray) (a2 : Int) : Option (List ByteArray × Bool) := (impl_patternsOk.f k l0).bind fun t326 => (if t326 = true then (if (l1.length : Int) > 40 then (impl_Wrap.j0 k l0 l1 a2 true) else ((impl_within.f a2 12 60).bind fun t327 => (impl_Wrap.j0 k l0 l1 a2 (!t327)))) else (impl_Wrap.j0 k l0 l1 a2 true))
theorem impl_Wrap.mono_l : ∀ k, (∀ y0 y1 y2 y3, LeO (impl_Wrap.j0 k y0 y1 y2 y3) (impl_Wrap.j0 (k + 1) y0 y1 y2 y3)) ∧ (∀ y0 y1 y2 y3 y4 y5, LeO (impl_Wrap.l0 k y0 y1 y2 y3 y4 y5) (impl_Wrap.l0 (k + 1) y0 y1 y2 y3 y4 y5)) ∧ (∀ y0 y1 y2 y3 y4 y5 y6 y7, LeO (impl_Wrap.l1 k y0 y1 y2 y3 y4 y5 y6 y7) (impl_Wrap.l1 (k + 1) y0 y1 y2 y3 y4 y5 y6 y7)) ∧ (∀ y0 y1 y2 y3 y4 y5 y6 y7 y8 y9, LeO (impl_Wrap.j3 k y0 y1 y2 y3 y4 y5 y6 y7 y8 y9) (impl_Wrap.j3 (k + 1) y0 y1 y2 y3 y4 y5 y6 y7 y8 y9)) ∧ (∀ y0 y1 y2 y3 y4 y5 y6 y7 y8 y9 y10 y11 y12 y13, LeO (impl_Wrap.l2 k y0 y1 y2 y3 y4 y5 y6 y7 y8 y9 y10 y11 y12 y13) (impl_Wrap.l2 (k + 1) y0 y1 y2 y3 y4 y5 y6 y7 y8 y9 y10 y11 y12 y13))
 | 0 => ⟨fun _ _ _ _ r h => by simp [impl_Wrap.j0] at h, fun _ _ _ _ _ _ r h => by simp [impl_Wrap.l0] at h, fun _ _ _ _ _ _ _ _ r h => by simp [impl_Wrap.l1] at h, fun _ _ _ _ _ _ _ _ _ _ r h => by simp [impl_Wrap.j3] at h, fun _ _ _ _ _ _ _ _ _ _ _ _ _ _ r h => by simp [impl_Wrap.l2] at h⟩
 | k + 1 => by
  obtain ⟨ih0, ih1, ih2, ih3, ih4⟩ := impl_Wrap.mono_l k
  refine ⟨?_, ?_, ?_, ?_, ?_⟩
  · intro y0 y1 y2 y3
    unfold impl_Wrap.j0
    have m0 := @impl_SplitAt.mono
    have m1 := @impl_WordOk.mono
    have m2 := @impl_patternsOk.mono
    exact mn_
  · intro y0 y1 y2 y3 y4 y5
    unfold impl_Wrap.l0
    have m0 := @impl_SplitAt.mono
    have m1 := @impl_WordOk.mono
    have m2 := @impl_patternsOk.mono
    exact mn_
  · intro y0 y1 y2 y3 y4 y5 y6 y7
    unfold impl_Wrap.l1
    have m0 := @impl_SplitAt.mono
    have m1 := @impl_WordOk.mono
    have m2 := @impl_patternsOk.mono
    exact mn_
  · intro y0 y1 y2 y3 y4 y5 y6 y7 y8 y9
    unfold impl_Wrap.j3
    have m0 := @impl_SplitAt.mono
    have m1 := @impl_WordOk.mono
    have m2 := @impl_patternsOk.mono
    exact mn_
  · intro y0 y1 y2 y3 y4 y5 y6 y7 y8 y9 y10 y11 y12 y13
    unfold impl_Wrap.l2
    have m0 := @impl_SplitAt.mono
    have m1 := @impl_WordOk.mono
    have m2 := @impl_patternsOk.mono
    exact mn_
theorem impl_Wrap.mono : ∀ a0 a1 a2 k, LeO (impl_Wrap.f k a0 a1 a2) (impl_Wrap.f (k + 1) a0 a1 a2) := by
 intro a0 a1 a2 k
 obtain ⟨ih0, ih1, ih2, ih3, ih4⟩ := impl_Wrap.mono_l k
 unfold impl_Wrap.f
 have m0 := @impl_SplitAt.mono
 have m1 := @impl_WordOk.mono
 have m2 := @impl_patternsOk.mono
 exact mn_
theorem impl_Wrap.calls (k : Nat) (A0 : Option Addr) (c0 : Nat) (l0 : List (S42)) (A1 : Option Addr) (c1 : Nat) (l1 : List ByteArray) (a2 : Int) (r1 : List ByteArray) (r2 : Bool) (w : World) (hr0 : Kd.C k42 w A0 l0.length l0) (hc0 : l0.length ≤ c0) (hr1 : Kd.C Kd.string w A1 l1.length l1) (hc1 : l1.length ≤ c1) (h : impl_Wrap.f k l0 l1 a2 = some (r1, r2)) :
 Calls Tryd.prog 12 #[.slice A0 l0.length c0, .slice A1 l1.length c1, .int .i64 a2] w fun e w' => ∃ v0_ : Value, e = .returned (.tuple #[v0_, .bool r2]) ∧ Kd.R Kd.string 9 w' w.heap.size (fun _ => True) v0_ r1 ∧ Below w.heap.size w w' := by
 have HR0 := Aside0.mk hr0
 have HC0 := Aside0.mk hc0
 clear hr0 hc0
 have HR1 := Aside0.mk hr1
 have HC1 := Aside0.mk hc1
 clear hr1 hc1
 have HB := Aside0.mk (Below.refl w.heap.size w)
 unfold impl_Wrap.f at h; have H := h; clear h
 have HC4 := Aside0.mk H
 clear H
 go_enter Tryd.func12, Tryd.ntmps12
 go_upto_region 1 with (fail)
 go_cut [30] (fun v30 wc => ∃ (kq : Nat) (x30_3 : Bool), v30 = .bool x30_3 ∧ Aside0 (impl_Wrap.j0 kq l0 l1 a2 x30_3 = some (r1, r2)) ∧ Aside0 (kq ≤ k) ∧ Aside0 (Below w.heap.size w wc))
 case first =>
  have H := HC4.out
  clear HC4
  replace H := Option.bind_eq_some_iff.mp H
  obtain ⟨t326, A50, H⟩ := H; try dsimp -simprocs only at H
  have A5 := Aside0.mk A50
  clear A50
  replace H := iub_ H; rcases H with ⟨rfl, H⟩ | ⟨rfl, H⟩
  · have H' := Aside0.mk H
    clear H
    go_wp2_with (first | ((with_reducible refine gate_callee (f := 20) rfl ?_); refine gl_ 19 Tryd.func20 #[.slice A0 l0.length c0] ?_; (with_reducible refine (impl_patternsOk.calls k _ _ l0 false _ ?side1 ?side2 A5.out).mono ?_); (case side1 => exact cb_ HR0); (case side2 => exact HC0.out); rintro e w11 ⟨rfl, hb⟩; refine ⟨_, rfl, ?_⟩; replace HB := Aside0.mk (below_step (bl_) hb); (try clear hb); (try clear hb2); (try clear hk); (try clear hi)))
    go_meet
    case rel => exact ⟨_, (true), rf_, H', ⟨by first | omega | exact Nat.le_refl _⟩, ⟨bl_⟩⟩
  replace H := itcc_ H; rcases H with ⟨c7, H⟩ | ⟨c7, H⟩
  · have c7b0 : decide (40 < (l1.length : Int)) = true := decide_eq_true c7
    have c7b1 : decide (40 < l1.length) = true := decide_eq_true (by omega)
    clear c7
    (first | rw [c7b0] | (simp only [i64_w, i32_w]; rw [c7b0]) | skip)
    have H' := Aside0.mk H; clear H
    go_wp2_with (first | ((with_reducible refine gate_callee (f := 20) rfl ?_); refine gl_ 19 Tryd.func20 #[.slice A0 l0.length c0] ?_; (with_reducible refine (impl_patternsOk.calls k _ _ l0 true _ ?side1 ?side2 A5.out).mono ?_); (case side1 => exact cb_ HR0); (case side2 => exact HC0.out); rintro e w8 ⟨rfl, hb⟩; refine ⟨_, rfl, ?_⟩; replace HB := Aside0.mk (below_step (bl_) hb); (try clear hb); (try clear hb2); (try clear hk); (try clear hi)))
    go_meet
    case rel => exact ⟨_, (true), rf_, H', ⟨by first | omega | exact Nat.le_refl _⟩, ⟨bl_⟩⟩
  have c7b0 : decide (40 < (l1.length : Int)) = false := decide_eq_false c7
  have c7b1 : decide (40 < l1.length) = false := decide_eq_false (by omega)
  clear c7
  (first | rw [c7b0] | (simp only [i64_w, i32_w]; rw [c7b0]) | skip)
  replace H := Option.bind_eq_some_iff.mp H
  obtain ⟨t327, A90, H⟩ := H; try dsimp -simprocs only at H
  have A9 := Aside0.mk A90
  clear A90
  have H' := Aside0.mk H; clear H
  go_wp2_with (first | ((with_reducible refine gate_callee (f := 20) rfl ?_); refine gl_ 19 Tryd.func20 #[.slice A0 l0.length c0] ?_; (with_reducible refine (impl_patternsOk.calls k _ _ l0 true _ ?side1 ?side2 A5.out).mono ?_); (case side1 => exact cb_ HR0); (case side2 => exact HC0.out); rintro e w10 ⟨rfl, hb⟩; refine ⟨_, rfl, ?_⟩; replace HB := Aside0.mk (below_step (bl_) hb); (try clear hb); (try clear hb2); (try clear hk); (try clear hi)) | (go_at_call 23; (with_reducible refine (impl_within.calls a2 12 60 t327 _ A9.out).mono ?_); rintro e w' ⟨rfl, ⟨nd, rfl⟩⟩))
  go_meet
  case rel => exact ⟨_, (!t327), rf_, H', ⟨by first | omega | exact Nat.le_refl _⟩, ⟨bl_⟩⟩
 case rest =>
  clear HC4
  (try clear c1);(try clear c2);(try clear p2);(try clear c6);(try clear c7);(try clear c7b0);(try clear c7b1)
  obtain ⟨kq, x30_3, rfl, HA, HJ3, HB⟩ := hcut
  cases kq with
  | zero => exact absurd HA.out (by simp [impl_Wrap.j0])
  | succ kj3 =>
   have H := HA.out
   clear HA
   simp only [impl_Wrap.j0] at H
   replace H := itb_ H; rcases H with ⟨rfl, H⟩ | ⟨rfl, H⟩
   · obtain ⟨y328, hy_⟩ : ∃ y_ : List ByteArray, y_ = (([] : List ByteArray)) := ⟨_, rfl⟩
     replace H : (some (y328, false)) = some (r1, r2) := ry_
     have Ny328 := Aside0.mk hy_; clear hy_
     simp only [Option.some.injEq, Prod.mk.injEq] at H
     obtain ⟨rfl, rfl⟩ := H
     go_wp2_with (first | ((with_reducible refine gate_dst (N := 31) rfl ?_); (try (refine gate_guard (by rfl) ?_; dsimp only)); refine rl_ Kd.string 9 31 ([] : List ByteArray) [] ?_; intro v329 w13 ho14 hb hg_ hnew_; clear hg_ hnew_; (first | rw [← Ny328.out] at ho14 | (simp only [Int.reduceToNat] at ho14; rw [← Ny328.out] at ho14)); have HO330 := Aside0.mk (Kd.R_lower ho14 (below_size (bl_))); replace HB := Aside0.mk (below_step (bl_) hb); clear hb ho14))
     go_ret2
     exact ⟨_, rfe_, kR_ HO330, bl_⟩
   have H' := Aside0.mk H; clear H
   go_wp2
   go_loopg [34] kj3 (fun kq v34 w' => ∃ (x34_2 : Int), v34 = .int .i64 x34_2 ∧ Aside0 (impl_Wrap.l0 kq l0 l1 a2 l1 (l1.length : Int) x34_2 = some (r1, r2)) ∧ Aside0 (kq ≤ kj3) ∧ Aside0 (Below w.heap.size w w'))
   case atStart => exact ⟨(0), rf_, H', ⟨Nat.le_refl _⟩, ⟨bl_⟩⟩
   case round =>
    clear H'
    (try clear c1);(try clear c2);(try clear p2);(try clear c6);(try clear c7);(try clear c7b0);(try clear c7b1);(try clear c12);(try clear p2)
    obtain ⟨x34_2, rfl, HA, HK2, HB⟩ := hrel
    cases gk with
    | zero => exact absurd HA.out (by simp [impl_Wrap.l0])
    | succ k2 =>
     have H := HA.out
     clear HA
     simp only [impl_Wrap.l0] at H
     replace H := itdc_ H; rcases H with ⟨c15b0, H⟩ | ⟨c15, H⟩
     · replace H := ind_ H; obtain ⟨c16b0, H⟩ := H
       replace H := ind_ H; obtain ⟨c17b0, H⟩ := H
       replace H := Option.bind_eq_some_iff.mp H
       obtain ⟨t332, A180, H⟩ := H; try dsimp -simprocs only at H
       have A18 := Aside0.mk A180
       clear A180
       replace H := itb_ H; rcases H with ⟨rfl, H⟩ | ⟨rfl, H⟩
       · have H' := Aside0.mk H
         clear H
         have p331 : 0 ≤ (x34_2 : Int) := od_
         have q331 : x34_2 < (l1.length : Int) := od_
         obtain ⟨ad331, e331, hx331_0⟩ := Kd.at_string HR1.out x34_2 p331 q331
         cases e331
         replace hx331_0 := hc_ HB hx331_0
         replace p331 := eq_true p331; replace q331 := eq_true q331
         go_wp2_with (first | ((with_reducible refine gate_callee (f := 21) rfl ?_); refine gl_ 39 Tryd.func21 #[.string (rdOf ByteArray.empty l1 x34_2)] ?_; (with_reducible refine (impl_WordOk.calls k2 (rdOf ByteArray.empty l1 x34_2) true _ A18.out).mono ?_); rintro e w' ⟨rfl, ⟨nd, rfl⟩⟩; refine ⟨_, rfl, ?_⟩))
         go_roundg k2
         case measure => have := HJ3.out; have := HK2.out; omega
         case rel => exact ⟨(wrap64 (x34_2 + 1)), rf_, H', ⟨by have := HJ3.out; have := HK2.out; omega⟩, ⟨bl_⟩⟩
       obtain ⟨y333, hy_⟩ : ∃ y_ : List ByteArray, y_ = (([] : List ByteArray)) := ⟨_, rfl⟩
       replace H : (some (y333, false)) = some (r1, r2) := ry_
       have Ny333 := Aside0.mk hy_; clear hy_
       simp only [Option.some.injEq, Prod.mk.injEq] at H
       obtain ⟨rfl, rfl⟩ := H
       have p331 : 0 ≤ (x34_2 : Int) := od_
       have q331 : x34_2 < (l1.length : Int) := od_
       obtain ⟨ad331, e331, hx331_0⟩ := Kd.at_string HR1.out x34_2 p331 q331
       cases e331
       replace hx331_0 := hc_ HB hx331_0
       replace p331 := eq_true p331; replace q331 := eq_true q331
       go_wp2_with (first | ((with_reducible refine gate_callee (f := 21) rfl ?_); refine gl_ 39 Tryd.func21 #[.string (rdOf ByteArray.empty l1 x34_2)] ?_; (with_reducible refine (impl_WordOk.calls k2 (rdOf ByteArray.empty l1 x34_2) false _ A18.out).mono ?_); rintro e w' ⟨rfl, ⟨nd, rfl⟩⟩; refine ⟨_, rfl, ?_⟩) | ((with_reducible refine gate_dst (N := 41) rfl ?_); (try (refine gate_guard (by rfl) ?_; dsimp only)); refine rl_ Kd.string 9 41 ([] : List ByteArray) [] ?_; intro v334 w20 ho21 hb hg_ hnew_; clear hg_ hnew_; (first | rw [← Ny333.out] at ho21 | (simp only [Int.reduceToNat] at ho21; rw [← Ny333.out] at ho21)); have HO335 := Aside0.mk (Kd.R_lower ho21 (below_size (bl_))); replace HB := Aside0.mk (below_step (bl_) hb); clear hb ho21))
       go_ret2
       exact ⟨_, rfe_, kR_ HO335, bl_⟩
     have c15b0 : decide (x34_2 < (l1.length : Int)) = false := decide_eq_false c15
     clear c15
     obtain ⟨y336, hy_⟩ : ∃ y_ : List ByteArray, y_ = (([] : List ByteArray)) := ⟨_, rfl⟩
     replace H : (impl_Wrap.l1 k2 l0 l1 a2 y336 (⟨#[]⟩ : ByteArray) l1 (l1.length : Int) 0) = some (r1, r2) := ry_
     have Ny336 := Aside0.mk hy_; clear hy_
     have H' := Aside0.mk H; clear H
     go_wp2_with (first | ((with_reducible refine gate_dst (N := 43) rfl ?_); (try (refine gate_guard (by rfl) ?_; dsimp only)); refine rl_ Kd.string 9 43 ([] : List ByteArray) [] ?_; intro v337 w22 ho23 hb hg_ hnew_; clear hg_ hnew_; (first | rw [← Ny336.out] at ho23 | (simp only [Int.reduceToNat] at ho23; rw [← Ny336.out] at ho23)); have HO338 := Aside0.mk (Kd.R_lower ho23 (below_size (bl_))); replace HB := Aside0.mk (below_step (bl_) hb); clear hb ho23))
     go_loopg [10, 11, 46] k2 (fun kq v10 v11 v46 w' => ∃ (x10_3 : List ByteArray) (x11_3 : ByteArray) (x46_3 : Int), v11 = .string x11_3 ∧ v46 = .int .i64 x46_3 ∧ Aside0 (impl_Wrap.l1 kq l0 l1 a2 x10_3 x11_3 l1 (l1.length : Int) x46_3 = some (r1, r2)) ∧ Aside0 (kq ≤ k2) ∧ Aside0 (Kd.R Kd.string 9 w' w.heap.size (fun _ => True) v10 x10_3) ∧ Aside0 (Below w.heap.size w w'))
     case atStart => exact ⟨(y336), ((⟨#[]⟩ : ByteArray)), (0), rf_, rf_, H', ⟨Nat.le_refl _⟩, ⟨kR_ HO338⟩, ⟨bl_⟩⟩
     case round =>
      clear H'
      (try clear c1);(try clear c2);(try clear p2);(try clear p3);(try clear q3);(try clear hx3);(try clear c6);(try clear p6);(try clear c7);(try clear c7b0);(try clear c7b1);(try clear c12);(try clear c15);(try clear c15b0);(try clear c16);(try clear c16b0);(try clear c17);(try clear c17b0);(try clear c19);(try clear c20);(try clear c21);(try clear hx331_0);(try clear p2);(try clear p331);(try clear q331)
      obtain ⟨x10_3, x11_3, x46_3, rfl, rfl, HA, HK3, HO_10, HB⟩ := hrel
      cases gk with
      | zero => exact absurd HA.out (by simp [impl_Wrap.l1])
      | succ k3 =>
       have H := HA.out
       clear HA
       simp only [impl_Wrap.l1] at H
       replace H := iucd_ H; rcases H with ⟨c24b0, H⟩ | ⟨c24, H⟩
       · replace H := iucc_ H; rcases H with ⟨c47, H⟩ | ⟨c47, H⟩
         · have c47b0 : decide (0 < (l1.length : Int)) = false := decide_eq_false c47
           have c47b1 : decide (0 < l1.length) = false := decide_eq_false (by omega)
           clear c47
           simp only [Option.some.injEq, Prod.mk.injEq] at H
           obtain ⟨rfl, rfl⟩ := H
           go_wp2
           go_ret2
           exact ⟨_, rfe_, kR_ HO_10, bl_⟩
         have c47b0 : decide (0 < (l1.length : Int)) = true := decide_eq_true c47
         have c47b1 : decide (0 < l1.length) = true := decide_eq_true (by omega)
         clear c47
         replace H := inc_ H; obtain ⟨c48, H⟩ := H
         have LMc48 := Aside0.mk c48
         clear c48
         obtain ⟨y339, hy_⟩ : ∃ y_ : List ByteArray, y_ = (x10_3 ++ [x11_3]) := ⟨_, rfl⟩
         replace H : (some (y339, true)) = some (r1, r2) := ry_
         have Ny339 := Aside0.mk hy_; clear hy_
         simp only [Option.some.injEq, Prod.mk.injEq] at H
         obtain ⟨rfl, rfl⟩ := H
         go_wp2_with (first | ((with_reducible refine gate_builtin (b := .append) (xs := #[.tmp 101, .tmp 103]) rfl ?_); (try (refine gate_guard (by rfl) ?_; dsimp only)); at_builtin; refine Kd.R_append Kd.string (w0 := w) w.heap.size rfl (.tmp 101) (.tmp 103) 32 9 (.string ⟨#[]⟩) 16 rfl Tryd.underlying32 info9 rfl (by decide) (by omega) u10 x10_3 x11_3 [.string x11_3] (fun _ => True) (fun _ => False) rfl rfl ?aP (fun _ hk => hk.elim) ?aF ?aO ?aB ?aS ?aL ?_; (case aP => exact rfl); (case aB => exact (bl_)); (case aF => exact (fun _ _ => trivial)); (case aO => exact (kR_ HO_10)); (case aS => exact (below_size (bl_))); (case aL => have := LMc48.out; omega); intro v340 w49 ho hb hg hat; rw [← Ny339.out] at ho; replace HB := Aside0.mk (hb); have HO341 := Aside0.mk (ho); clear HO_10; clear ho hb hg hat))
         go_ret2
         exact ⟨_, rfe_, kR_ HO341, bl_⟩
       have c24b0 : decide (x46_3 < (l1.length : Int)) = true := decide_eq_true c24
       clear c24
       replace H := inc_ H; obtain ⟨c25, H⟩ := H
       have c25b0 : decide (0 ≤ x46_3) = true := decide_eq_true c25
       clear c25
       replace H := inc_ H; obtain ⟨c26, H⟩ := H
       have c26b0 : decide (x46_3 < (l1.length : Int)) = true := decide_eq_true c26
       clear c26
       have HC27 := Aside0.mk H
       clear H
       have p342 : 0 ≤ (x46_3 : Int) := od_
       have q342 : x46_3 < (l1.length : Int) := od_
       obtain ⟨ad342, e342, hx342_0⟩ := Kd.at_string HR1.out x46_3 p342 q342
       cases e342
       replace hx342_0 := hc_ HB hx342_0
       replace p342 := eq_true p342; replace q342 := eq_true q342
       go_upto_if 53 with (fail)
       go_cut [14] (fun v14 wc => ∃ (kq : Nat) (x14_26 : ByteArray), v14 = .string x14_26 ∧ Aside0 (impl_Wrap.j3 kq l0 l1 a2 x10_3 x11_3 (rdOf ByteArray.empty l1 x46_3) x14_26 l1 (l1.length : Int) x46_3 = some (r1, r2)) ∧ Aside0 (kq ≤ k3) ∧ Aside0 (Kd.R Kd.string 9 wc w.heap.size (fun _ => True) u10 x10_3) ∧ Aside0 (Below w.heap.size w wc))
       case first =>
        have H := HC27.out
        clear HC27
        replace H := iucc_ H; rcases H with ⟨c28, H⟩ | ⟨c28, H⟩
        · have c28b0 : decide (0 < x46_3) = false := decide_eq_false c28
          clear c28
          (first | rw [c28b0] | (simp only [i64_w, i32_w]; rw [c28b0]) | skip)
          have H' := Aside0.mk H; clear H
          go_wp2
          go_meet
          case rel => exact ⟨_, (x11_3), rf_, H', ⟨by have := HJ3.out; have := HK2.out; have := HK3.out; first | omega | exact Nat.le_refl _⟩, ⟨kR_ HO_10⟩, ⟨bl_⟩⟩
        have c28b0 : decide (0 < x46_3) = true := decide_eq_true c28
        clear c28
        (first | rw [c28b0] | (simp only [i64_w, i32_w]; rw [c28b0]) | skip)
        replace H := inc_ H; obtain ⟨c29, H⟩ := H
        have c29b0 := eq_true c29
        have c29b1 : decide (x11_3.size + 1 ≤ 9223372036854775807) = true := decide_eq_true c29
        try have c29b2 : (9223372036854775807 < x11_3.size + 1) = False := eq_false (Nat.not_lt.2 c29)
        have H' := Aside0.mk H; clear H
        go_wp2
        go_meet
        case rel => exact ⟨_, (x11_3 ++ (⟨#[32]⟩ : ByteArray)), rf_, H', ⟨by have := HJ3.out; have := HK2.out; have := HK3.out; first | omega | exact Nat.le_refl _⟩, ⟨kR_ HO_10⟩, ⟨bl_⟩⟩
       case rest =>
        clear HC27
        (try clear c1);(try clear c2);(try clear p2);(try clear p3);(try clear q3);(try clear hx3);(try clear c6);(try clear p6);(try clear c7);(try clear c7b0);(try clear c7b1);(try clear c12);(try clear c15);(try clear c15b0);(try clear c16);(try clear c16b0);(try clear c17);(try clear c17b0);(try clear c19);(try clear c20);(try clear c21);(try clear c24);(try clear c24b0);(try clear c25);(try clear c25b0);(try clear c26);(try clear c26b0);(try clear c28);(try clear c28b0);(try clear c29);(try clear c29b0);(try clear c29b1);(try clear c29b2);(try clear hx331_0);(try clear hx342_0);(try clear p2);(try clear p3);(try clear p331);(try clear p342);(try clear p6);(try clear q3);(try clear q331);(try clear q342)
        obtain ⟨kq, x14_26, rfl, HA, HJ26, HO_10, HB⟩ := hcut
        cases kq with
        | zero => exact absurd HA.out (by simp [impl_Wrap.j3])
        | succ kj26 =>
         have H := HA.out
         clear HA
         simp only [impl_Wrap.j3] at H
         replace H := itdc_ H; rcases H with ⟨c30b0, H⟩ | ⟨c30, H⟩
         · replace H := inc_ H; obtain ⟨c31, H⟩ := H
           have c31b0 := eq_true c31
           try simp only [show wrap64 ((x14_26.size : Int) + ((rdOf ByteArray.empty l1 x46_3).size : Int)) = ((x14_26.size : Int) + ((rdOf ByteArray.empty l1 x46_3).size : Int)) from by unfold wrap64; omega] at c30b0
           have c31b1 : decide (x14_26.size + (rdOf ByteArray.empty l1 x46_3).size ≤ 9223372036854775807) = true := decide_eq_true c31
           try have c31b2 : (9223372036854775807 < x14_26.size + (rdOf ByteArray.empty l1 x46_3).size) = False := eq_false (Nat.not_lt.2 c31)
           have H' := Aside0.mk H; clear H
           go_wp2
           go_roundg kj26
           case measure => have := HJ3.out; have := HK2.out; have := HK3.out; have := HJ26.out; omega
           case rel => exact ⟨(x10_3), (x14_26 ++ (rdOf ByteArray.empty l1 x46_3)), (wrap64 (x46_3 + 1)), rf_, rf_, H', ⟨by have := HJ3.out; have := HK2.out; have := HK3.out; have := HJ26.out; omega⟩, ⟨kR_ HO_10⟩, ⟨bl_⟩⟩
         have c30b0 : decide ((wrap64 ((x14_26.size : Int) + ((rdOf ByteArray.empty l1 x46_3).size : Int))) ≤ a2) = false := decide_eq_false c30
         clear c30
         replace H := Option.bind_eq_some_iff.mp H
         obtain ⟨t343, A320, H⟩ := H; try dsimp -simprocs only at H
         have A32 := Aside0.mk A320
         clear A320
         have H' := Aside0.mk H; clear H
         go_wp2_with (first | ((with_reducible refine gate_callee (f := 10) rfl ?_); refine gl_ 69 Tryd.func10 #[.slice A0 l0.length c0, .string (rdOf ByteArray.empty l1 x46_3)] ?_; (with_reducible refine (impl_SplitAt.calls kj26 _ _ l0 (rdOf ByteArray.empty l1 x46_3) t343 _ ?side1 ?side2 A32.out).mono ?_); (case side1 => exact cb_ HR0); (case side2 => exact HC0.out); rintro e w33 ⟨v344, rfl, ho0, hb⟩; refine ⟨_, rfl, ?_⟩; replace HO_10 := Aside0.mk (Kd.R_below (kR_ HO_10) hb); have HO345 := Aside0.mk (Kd.R_lower ho0 (below_size (bl_))); replace HB := Aside0.mk (below_step (bl_) hb); (try clear hb); (try clear hb2); (try clear hk); (try clear hi); (try clear ho0); obtain ⟨Ao34, co34, eo34⟩ := Kd.R_slice HO345.out; subst eo34))
         go_loopg [11, 15, 71] kj26 (fun kq v11 v15 v71 w' => ∃ (x11_5 : ByteArray) (x15_5 : ByteArray) (x71_5 : Int), v11 = .string x11_5 ∧ v15 = .string x15_5 ∧ v71 = .int .i64 x71_5 ∧ Aside0 (impl_Wrap.l2 kq l0 l1 a2 x10_3 x11_5 (rdOf ByteArray.empty l1 x46_3) x14_26 x15_5 l1 (l1.length : Int) x46_3 t343 (t343.length : Int) x71_5 = some (r1, r2)) ∧ Aside0 (kq ≤ kj26) ∧ Aside0 (Kd.R Kd.string 9 w' w.heap.size (fun _ => True) u10 x10_3) ∧ Aside0 (Kd.R (Kd.int .i64) 3 w' w.heap.size (fun _ => True) (.slice Ao34 t343.length co34) t343) ∧ Aside0 (Below w.heap.size w w'))
         case atStart => exact ⟨(x11_3), ((rdOf ByteArray.empty l1 x46_3)), (0), rf_, rf_, rf_, H', ⟨Nat.le_refl _⟩, ⟨kR_ HO_10⟩, ⟨kR_ HO345⟩, ⟨bl_⟩⟩
         case round =>
          clear H'
          (try clear c1);(try clear c2);(try clear p2);(try clear c3);(try clear p3);(try clear q3);(try clear hx3);(try clear c6);(try clear p6);(try clear c7);(try clear c7b0);(try clear c7b1);(try clear c10);(try clear c12);(try clear c15);(try clear c15b0);(try clear c16);(try clear c16b0);(try clear c17);(try clear c17b0);(try clear c19);(try clear c20);(try clear c21);(try clear c24);(try clear c24b0);(try clear c25);(try clear c25b0);(try clear c26);(try clear c26b0);(try clear c28);(try clear c28b0);(try clear c29);(try clear c29b0);(try clear c29b1);(try clear c29b2);(try clear c30);(try clear c30b0);(try clear c31);(try clear c31b0);(try clear c31b1);(try clear c31b2);(try clear p33);(try clear q33);(try clear hx33);(try clear p34);(try clear q34);(try clear hx34);(try clear hx331_0);(try clear hx342_0);(try clear p2);(try clear p3);(try clear p331);(try clear p342);(try clear p6);(try clear q3);(try clear q331);(try clear q342)
          obtain ⟨x11_5, x15_5, x71_5, rfl, rfl, rfl, HA, HK5, HO_10, HO_69, HB⟩ := hrel
          cases gk with
          | zero => exact absurd HA.out (by simp [impl_Wrap.l2])
          | succ k5 =>
           have H := HA.out
           clear HA
           simp only [impl_Wrap.l2] at H
           replace H := iudd_ H; rcases H with ⟨c35b0, H⟩ | ⟨c35b0, H⟩
           · replace H := inc_ H; obtain ⟨c45, H⟩ := H
             have LMc45 := Aside0.mk c45
             clear c45
             obtain ⟨y347, hy_⟩ : ∃ y_ : List ByteArray, y_ = (x10_3 ++ [x11_5]) := ⟨_, rfl⟩
             replace H : (impl_Wrap.l1 k5 l0 l1 a2 y347 x15_5 l1 (l1.length : Int) (wrap64 (x46_3 + 1))) = some (r1, r2) := ry_
             have Ny347 := Aside0.mk hy_; clear hy_
             have H' := Aside0.mk H; clear H
             go_wp2_with (first | ((with_reducible refine gate_builtin (b := .append) (xs := #[.tmp 92, .tmp 94]) rfl ?_); (try (refine gate_guard (by rfl) ?_; dsimp only)); at_builtin; refine Kd.R_append Kd.string (w0 := w) w.heap.size rfl (.tmp 92) (.tmp 94) 32 9 (.string ⟨#[]⟩) 16 rfl Tryd.underlying32 info9 rfl (by decide) (by omega) u10 x10_3 x11_5 [.string x11_5] (fun _ => True) (fun _ => False) rfl rfl ?aP (fun _ hk => hk.elim) ?aF ?aO ?aB ?aS ?aL ?_; (case aP => exact rfl); (case aB => exact (bl_)); (case aF => exact (fun _ _ => trivial)); (case aO => exact (kR_ HO_10)); (case aS => exact (below_size (bl_))); (case aL => have := LMc45.out; omega); intro v348 w46 ho hb hg hat; rw [← Ny347.out] at ho; replace HO_69 := Aside0.mk (Kd.R_over' (kR_ HO_69) (Kd.R_typed (kR_ HO_10)) (by decide) hg); replace HB := Aside0.mk (hb); have HO349 := Aside0.mk (ho); clear HO_10; clear ho hb hg hat))
             go_roundg k5
             case measure => have := HJ3.out; have := HK2.out; have := HK3.out; have := HJ26.out; have := HK5.out; omega
             case rel => exact ⟨(y347), (x15_5), (wrap64 (x46_3 + 1)), rf_, rf_, H', ⟨by have := HJ3.out; have := HK2.out; have := HK3.out; have := HJ26.out; have := HK5.out; omega⟩, ⟨kR_ HO349⟩, ⟨bl_⟩⟩
           replace H := ind_ H; obtain ⟨c36b0, H⟩ := H
           replace H := ind_ H; obtain ⟨c37b0, H⟩ := H
           replace H := iudd_ H; rcases H with ⟨c38b0, H⟩ | ⟨c38b0, H⟩
           · have H' := Aside0.mk H
             clear H
             have p346 : 0 ≤ (x71_5 : Int) := od_
             have q346 : x71_5 < (t343.length : Int) := od_
             obtain ⟨ad346, e346, hx346_0⟩ := Kd.at_int (Kd.R_reads' HO_69.out).2.2 x71_5 p346 q346
             cases e346
             replace p346 := eq_true p346; replace q346 := eq_true q346
             go_wp2
             go_roundg k5
             case measure => have := HJ3.out; have := HK2.out; have := HK3.out; have := HJ26.out; have := HK5.out; omega
             case rel => exact ⟨(x11_5), (x15_5), (wrap64 (x71_5 + 1)), rf_, rf_, rf_, H', ⟨by have := HJ3.out; have := HK2.out; have := HK3.out; have := HJ26.out; have := HK5.out; omega⟩, ⟨kR_ HO_10⟩, ⟨kR_ HO_69⟩, ⟨bl_⟩⟩
           replace H := inc_ H; obtain ⟨c39, H⟩ := H
           have c39b0 := eq_true c39
           have c39b1 : decide (0 ≤ (rd t343 x71_5)) = true := decide_eq_true c39
           clear c39
           replace H := inc_ H; obtain ⟨c40, H⟩ := H
           have c40b0 := eq_true c40
           have c40b1 : decide ((rd t343 x71_5) ≤ ((rdOf ByteArray.empty l1 x46_3).size : Int)) = true := decide_eq_true c40
           clear c40
           replace H := inc_ H; obtain ⟨c41, H⟩ := H
           have c41b0 := eq_true c41
           have c41b1 : decide (x14_26.size + ((rd t343 x71_5) : Int).toNat ≤ 9223372036854775807) = true := decide_eq_true c41
           try have c41b2 : (9223372036854775807 < x14_26.size + ((rd t343 x71_5) : Int).toNat) = False := eq_false (Nat.not_lt.2 c41)
           replace H := inc_ H; obtain ⟨c42, H⟩ := H
           have c42b0 := eq_true c42
           have c42b1 : decide (x14_26.size + ((rd t343 x71_5) : Int).toNat + 1 ≤ 9223372036854775807) = true := decide_eq_true c42
           try have c42b2 : (9223372036854775807 < x14_26.size + ((rd t343 x71_5) : Int).toNat + 1) = False := eq_false (Nat.not_lt.2 c42)
           have c43b0 := eq_true (od_ : 0 ≤ (rd t343 x71_5))
           have c44b0 := eq_true (od_ : (rd t343 x71_5) ≤ ((rdOf ByteArray.empty l1 x46_3).size : Int))
           have H' := Aside0.mk H; clear H
           have p346 : 0 ≤ (x71_5 : Int) := od_
           have q346 : x71_5 < (t343.length : Int) := od_
           obtain ⟨ad346, e346, hx346_0⟩ := Kd.at_int (Kd.R_reads' HO_69.out).2.2 x71_5 p346 q346
           cases e346
           replace p346 := eq_true p346; replace q346 := eq_true q346
           go_wp2
           go_roundg k5
           case measure => have := HJ3.out; have := HK2.out; have := HK3.out; have := HJ26.out; have := HK5.out; omega
           case rel => exact ⟨((x14_26 ++ ((rdOf ByteArray.empty l1 x46_3).extract 0 ((rd t343 x71_5) : Int).toNat)) ++ (⟨#[45]⟩ : ByteArray)), ((rdOf ByteArray.empty l1 x46_3).extract ((rd t343 x71_5) : Int).toNat (rdOf ByteArray.empty l1 x46_3).size), (wrap64 (x71_5 + 1)), rf_, rf_, rf_, H', ⟨by have := HJ3.out; have := HK2.out; have := HK3.out; have := HJ26.out; have := HK5.out; omega⟩, ⟨kR_ HO_10⟩, ⟨kR_ HO_69⟩, ⟨bl_⟩⟩

/-! ### spec_l1Letters: function 37 -/
def spec_l1Letters.l0 : Nat → ByteArray → Int → Int → Option (Bool)
 | 0, _, _, _ => none
 | k + 1, x0, x1, x5 => if x5 < (x0.size : Int) then (if 0 ≤ x5 then (if (bt x0 x5) < 97 then (some false) else (if (bt x0 x5) > 122 then (some false) else (spec_l1Letters.l0 k x0 x1 (wrap64 (x5 + 1))))) else (none)) else (some (decide ((x0.size : Int) ≤ x1)))
def spec_l1Letters.f (k : Nat) (a0 : ByteArray) (a1 : Int) : Option (Bool) := spec_l1Letters.l0 k a0 a1 0
theorem spec_l1Letters.mono_l : ∀ k, (∀ y0 y1 y2, LeO (spec_l1Letters.l0 k y0 y1 y2) (spec_l1Letters.l0 (k + 1) y0 y1 y2))
 | 0 => fun _ _ _ r h => by simp [spec_l1Letters.l0] at h
 | k + 1 => by
  have ih0 := spec_l1Letters.mono_l k
  · intro y0 y1 y2
    unfold spec_l1Letters.l0
    exact mn_
theorem spec_l1Letters.mono : ∀ a0 a1 k, LeO (spec_l1Letters.f k a0 a1) (spec_l1Letters.f (k + 1) a0 a1) := by
 intro a0 a1 k
 have ih0 := spec_l1Letters.mono_l k
 unfold spec_l1Letters.f
 exact mn_
theorem spec_l1Letters.calls (k : Nat) (a0 : ByteArray) (a1 : Int) (r : Bool) (w : World) (h : spec_l1Letters.f k a0 a1 = some r) :
 Calls Tryd.prog 37 #[.string a0, .int .i64 a1] w fun e w' => e = .returned (.bool r) ∧ Drawn0 w w' := by
 unfold spec_l1Letters.f at h; have H := h; clear h
 have H' := Aside0.mk H; clear H
 go_enter Tryd.func37, Tryd.ntmps37
 go_wp2
 go_loopg [5] k (fun kq v5 w' => ∃ (x5_1 : Int), v5 = .int .i64 x5_1 ∧ Aside0 (spec_l1Letters.l0 kq a0 a1 x5_1 = some r) ∧ Aside0 (kq ≤ k) ∧ Drawn0 w w')
 case atStart => exact ⟨(0), rf_, H', ⟨Nat.le_refl _⟩, dr_⟩
 case round =>
  clear H'
  try clear p2
  obtain ⟨x5_1, rfl, HA, HK1, ⟨m1, rfl⟩⟩ := hrel
  cases gk with
  | zero => exact absurd HA.out (by simp [spec_l1Letters.l0])
  | succ k1 =>
   have H := HA.out
   clear HA
   simp only [spec_l1Letters.l0] at H
   replace H := iudd_ H; rcases H with ⟨c3b0, H⟩ | ⟨c3b0, H⟩
   · obtain rfl := Option.some.inj H
     go_wp2
     go_ret
     exact ⟨rf_, dr_⟩
   replace H := ind_ H; obtain ⟨c4b0, H⟩ := H
   replace H := itdd_ H; rcases H with ⟨c6b0, H⟩ | ⟨c6b0, H⟩
   · obtain rfl := Option.some.inj H
     have p5 : 0 ≤ (x5_1 : Int) := od_
     have q5 : x5_1 < (a0.size : Int) := od_
     have hx5 := bt_at a0 x5_1
     replace p5 := eq_true p5; replace q5 := eq_true q5
     go_wp2
     go_ret
     exact ⟨rf_, dr_⟩
   replace H := itcc_ H; rcases H with ⟨c8, H⟩ | ⟨c8, H⟩
   · have c8b0 : decide (122 < (bt a0 x5_1)) = true := decide_eq_true c8
     clear c8
     obtain rfl := Option.some.inj H
     have p5 : 0 ≤ (x5_1 : Int) := od_
     have q5 : x5_1 < (a0.size : Int) := od_
     have hx5 := bt_at a0 x5_1
     replace p5 := eq_true p5; replace q5 := eq_true q5
     have p7 : 0 ≤ (x5_1 : Int) := od_
     have q7 : x5_1 < (a0.size : Int) := od_
     have hx7 := bt_at a0 x5_1
     replace p7 := eq_true p7; replace q7 := eq_true q7
     go_wp2
     go_ret
     exact ⟨rf_, dr_⟩
   have c8b0 : decide (122 < (bt a0 x5_1)) = false := decide_eq_false c8
   clear c8
   have H' := Aside0.mk H; clear H
   have p5 : 0 ≤ (x5_1 : Int) := od_
   have q5 : x5_1 < (a0.size : Int) := od_
   have hx5 := bt_at a0 x5_1
   replace p5 := eq_true p5; replace q5 := eq_true q5
   have p7 : 0 ≤ (x5_1 : Int) := od_
   have q7 : x5_1 < (a0.size : Int) := od_
   have hx7 := bt_at a0 x5_1
   replace p7 := eq_true p7; replace q7 := eq_true q7
   go_wp2
   go_roundg k1
   case measure => have := HK1.out; omega
   case rel => exact ⟨(wrap64 (x5_1 + 1)), rf_, H', ⟨by have := HK1.out; omega⟩, dr_⟩

end Go.Proofs.YtlmbmfnimpjgmaaDoor.P
