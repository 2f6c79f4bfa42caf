-- Written by a program of this session (wip/gen/gen.py) out of Lean's print of the loaded program; Lean checks it.
import Derived.Test.YtbopiacjioedeaaP0
import Derived.Test.YtbopiacjioedeaaSq2
import Derived.Test.YtbopiacjioedeaaP1
import Derived.Test.YtbopiacjioedeaaP8
namespace Go.Proofs.Ytbopiacjioedeaa.P
open Go.RowKit Go.Proofs.YtbopiacjioedeaaW.PrintWords Go.Proofs.YtbopiacjioedeaaW.PrintLast Go.Proofs.YtbopiacjioedeaaW.PrintMore
attribute [local go_sem] max2_int min2_int max_two min_two max_three min_three max_four min_four IntKind.wrap_u8 IntKind.wrap_u32 w64_256 w64_u32
set_option maxHeartbeats 8000000
set_option maxRecDepth 100000
set_option linter.unusedVariables false
set_option linter.unusedSimpArgs false

attribute [local go_sem high] eqA68
/-! ### spec_l2Affixes: function 50 -/
mutual
def spec_l2Affixes.l0 : Nat → List (S68) → Int → Option (Bool)
 | 0, _, _ => none
 | k + 1, x0, x3 => if x3 < (x0.length : Int) then (if 0 ≤ x3 then ((spec_AffixOk.f k ((rd_T68 x0 x3).f0) ((rd_T68 x0 x3).f1) ((rd_T68 x0 x3).f2) ((rd_T68 x0 x3).f3) ((rd_T68 x0 x3).f4)).bind fun t249 => (if t249 = true then (spec_l2Affixes.l1 k x0 x3 0) else (some false))) else (none)) else (some (decide ((x0.length : Int) ≤ 8)))
def spec_l2Affixes.l1 : Nat → List (S68) → Int → Int → Option (Bool)
 | 0, _, _, _ => none
 | k + 1, x0, x3, x4 => if x4 < x3 then (if 0 ≤ x4 then (if x4 < (x0.length : Int) then (if 0 ≤ x3 then (if x3 < (x0.length : Int) then (if ((((rd_T68 x0 x4).f0).toList) == (((rd_T68 x0 x3).f0).toList) && (((rd_T68 x0 x4).f1) == ((rd_T68 x0 x3).f1) && ((((rd_T68 x0 x4).f2).toList) == (((rd_T68 x0 x3).f2).toList) && ((((rd_T68 x0 x4).f3).toList) == (((rd_T68 x0 x3).f3).toList) && ((((rd_T68 x0 x4).f4).toList) == (((rd_T68 x0 x3).f4).toList)))))) = true then (some false) else (spec_l2Affixes.l1 k x0 x3 (wrap64 (x4 + 1)))) else (none)) else (none)) else (none)) else (none)) else (spec_l2Affixes.l0 k x0 (wrap64 (x3 + 1)))
end
def spec_l2Affixes.f (k : Nat) (l0 : List (S68)) : Option (Bool) := spec_l2Affixes.l0 k l0 0
theorem spec_l2Affixes.mono_l : ∀ k, (∀ y0 y1, LeO (spec_l2Affixes.l0 k y0 y1) (spec_l2Affixes.l0 (k + 1) y0 y1)) ∧ (∀ y0 y1 y2, LeO (spec_l2Affixes.l1 k y0 y1 y2) (spec_l2Affixes.l1 (k + 1) y0 y1 y2))
 | 0 => ⟨fun _ _ r h => by simp [spec_l2Affixes.l0] at h, fun _ _ _ r h => by simp [spec_l2Affixes.l1] at h⟩
 | k + 1 => by
  obtain ⟨ih0, ih1⟩ := spec_l2Affixes.mono_l k
  refine ⟨?_, ?_⟩
  · intro y0 y1
    unfold spec_l2Affixes.l0
    have m0 := @spec_AffixOk.mono
    exact mn_
  · intro y0 y1 y2
    unfold spec_l2Affixes.l1
    have m0 := @spec_AffixOk.mono
    exact mn_
theorem spec_l2Affixes.mono : ∀ a0 k, LeO (spec_l2Affixes.f k a0) (spec_l2Affixes.f (k + 1) a0) := by
 intro a0 k
 obtain ⟨ih0, ih1⟩ := spec_l2Affixes.mono_l k
 unfold spec_l2Affixes.f
 have m0 := @spec_AffixOk.mono
 exact mn_
theorem spec_l2Affixes.calls (k : Nat) (A0 : Option Addr) (c0 : Nat) (l0 : List (S68)) (r : Bool) (w : World) (hr0 : Kd.C k68 w A0 l0.length l0) (hc0 : l0.length ≤ c0) (h : spec_l2Affixes.f k l0 = some r) :
 Calls Try.prog 50 #[.slice A0 l0.length c0] w fun e w' => e = .returned (.bool r) ∧ Below w.heap.size w w' := by
 have hu68 := Try.underlying68
 have HR0 := Aside0.mk hr0
 have HC0 := Aside0.mk hc0
 clear hr0 hc0
 have HB := Aside0.mk (Below.refl w.heap.size w)
 unfold spec_l2Affixes.f at h; have H := h; clear h
 have H' := Aside0.mk H; clear H
 go_enter Try.func50, Try.ntmps50
 go_wp2
 repeat (go_quiet (fail); try go_wp2)
 go_loopg [3] k (fun kq v3 w' => ∃ (x3_1 : Int), v3 = .int .i64 x3_1 ∧ Aside0 (spec_l2Affixes.l0 kq l0 x3_1 = some r) ∧ Aside0 (kq ≤ k) ∧ Aside0 (Below w.heap.size w w'))
 case atStart => exact ⟨(0), rf_, H', ⟨Nat.le_refl _⟩, ⟨bl_⟩⟩
 case round =>
  clear H'
  obtain ⟨x3_1, rfl, HA, HK1, HB⟩ := hrel
  cases gk with
  | zero => exact absurd HA.out (by simp [spec_l2Affixes.l0])
  | succ k1 =>
   have H := HA.out
   clear HA
   simp only [spec_l2Affixes.l0] at H
   replace H := iucd_ H; rcases H with ⟨c2b0, H⟩ | ⟨c2, H⟩
   · obtain rfl := Option.some.inj H
     go_wp2
     repeat (go_quiet (fail); try go_wp2)
     go_ret
     exact ⟨rfe_, bl_⟩
   have c2b0 : decide (x3_1 < (l0.length : Int)) = true := decide_eq_true c2
   clear c2
   replace H := inc_ H; obtain ⟨c3, H⟩ := H
   have c3b0 : decide (0 ≤ x3_1) = true := decide_eq_true c3
   clear c3
   replace H := Option.bind_eq_some_iff.mp H
   obtain ⟨t249, A40, H⟩ := H; try dsimp only at H
   have A4 := Aside0.mk A40
   clear A40
   replace H := iub_ H; rcases H with ⟨rfl, H⟩ | ⟨rfl, H⟩
   · obtain rfl := Option.some.inj H
     have p248 : 0 ≤ (x3_1 : Int) := od_
     have q248 : x3_1 < (l0.length : Int) := od_
     obtain ⟨ad248, e248, hx248_0, hx248_1, hx248_2, hx248_3, hx248_4⟩ := at_T68 HR0.out x3_1 p248 q248
     cases e248
     replace hx248_0 := hc_ HB hx248_0
     replace hx248_1 := hc_ HB hx248_1
     replace hx248_2 := hc_ HB hx248_2
     replace hx248_3 := hc_ HB hx248_3
     replace hx248_4 := hc_ HB hx248_4
     replace p248 := eq_true p248; replace q248 := eq_true q248
     go_wp2_with (first | (go_at_call 74; (with_reducible refine (spec_AffixOk.calls k1 ((rd_T68 l0 x3_1).f0) ((rd_T68 l0 x3_1).f1) ((rd_T68 l0 x3_1).f2) ((rd_T68 l0 x3_1).f3) ((rd_T68 l0 x3_1).f4) false _ A4.out).mono ?_); rintro e w13 ⟨rfl, hb⟩; replace HB := Aside0.mk (below_step (bl_) hb); (try clear hb); (try clear hb2); (try clear hk); (try clear hi)))
     repeat (go_quiet (first | (go_at_call 74; (with_reducible refine (spec_AffixOk.calls k1 ((rd_T68 l0 x3_1).f0) ((rd_T68 l0 x3_1).f1) ((rd_T68 l0 x3_1).f2) ((rd_T68 l0 x3_1).f3) ((rd_T68 l0 x3_1).f4) false _ A4.out).mono ?_); rintro e w13 ⟨rfl, hb⟩; replace HB := Aside0.mk (below_step (bl_) hb); (try clear hb); (try clear hb2); (try clear hk); (try clear hi))); try go_wp2_with (first | (go_at_call 74; (with_reducible refine (spec_AffixOk.calls k1 ((rd_T68 l0 x3_1).f0) ((rd_T68 l0 x3_1).f1) ((rd_T68 l0 x3_1).f2) ((rd_T68 l0 x3_1).f3) ((rd_T68 l0 x3_1).f4) false _ A4.out).mono ?_); rintro e w13 ⟨rfl, hb⟩; replace HB := Aside0.mk (below_step (bl_) hb); (try clear hb); (try clear hb2); (try clear hk); (try clear hi))))
     go_ret
     exact ⟨rfe_, bl_⟩
   have H' := Aside0.mk H; clear H
   have p248 : 0 ≤ (x3_1 : Int) := od_
   have q248 : x3_1 < (l0.length : Int) := od_
   obtain ⟨ad248, e248, hx248_0, hx248_1, hx248_2, hx248_3, hx248_4⟩ := at_T68 HR0.out x3_1 p248 q248
   cases e248
   replace hx248_0 := hc_ HB hx248_0
   replace hx248_1 := hc_ HB hx248_1
   replace hx248_2 := hc_ HB hx248_2
   replace hx248_3 := hc_ HB hx248_3
   replace hx248_4 := hc_ HB hx248_4
   replace p248 := eq_true p248; replace q248 := eq_true q248
   go_wp2_with (first | (go_at_call 74; (with_reducible refine (spec_AffixOk.calls k1 ((rd_T68 l0 x3_1).f0) ((rd_T68 l0 x3_1).f1) ((rd_T68 l0 x3_1).f2) ((rd_T68 l0 x3_1).f3) ((rd_T68 l0 x3_1).f4) true _ A4.out).mono ?_); rintro e w6 ⟨rfl, hb⟩; replace HB := Aside0.mk (below_step (bl_) hb); (try clear hb); (try clear hb2); (try clear hk); (try clear hi)))
   repeat (go_quiet (first | (go_at_call 74; (with_reducible refine (spec_AffixOk.calls k1 ((rd_T68 l0 x3_1).f0) ((rd_T68 l0 x3_1).f1) ((rd_T68 l0 x3_1).f2) ((rd_T68 l0 x3_1).f3) ((rd_T68 l0 x3_1).f4) true _ A4.out).mono ?_); rintro e w6 ⟨rfl, hb⟩; replace HB := Aside0.mk (below_step (bl_) hb); (try clear hb); (try clear hb2); (try clear hk); (try clear hi))); try go_wp2_with (first | (go_at_call 74; (with_reducible refine (spec_AffixOk.calls k1 ((rd_T68 l0 x3_1).f0) ((rd_T68 l0 x3_1).f1) ((rd_T68 l0 x3_1).f2) ((rd_T68 l0 x3_1).f3) ((rd_T68 l0 x3_1).f4) true _ A4.out).mono ?_); rintro e w6 ⟨rfl, hb⟩; replace HB := Aside0.mk (below_step (bl_) hb); (try clear hb); (try clear hb2); (try clear hk); (try clear hi))))
   go_loopg [4] k1 (fun kq v4 w' => ∃ (x4_2 : Int), v4 = .int .i64 x4_2 ∧ Aside0 (spec_l2Affixes.l1 kq l0 x3_1 x4_2 = some r) ∧ Aside0 (kq ≤ k1) ∧ Aside0 (Below w.heap.size w w'))
   case atStart => exact ⟨(0), rf_, H', ⟨Nat.le_refl _⟩, ⟨bl_⟩⟩
   case round =>
    clear H'
    (try clear c2);(try clear c2b0);(try clear p2);(try clear q2);(try clear hx2);(try clear c3);(try clear c3b0);(try clear c5);(try clear hx248_0);(try clear hx248_1);(try clear hx248_2);(try clear hx248_3);(try clear hx248_4);(try clear p248);(try clear q248)
    obtain ⟨x4_2, rfl, HA, HK2, HB⟩ := hrel
    cases gk with
    | zero => exact absurd HA.out (by simp [spec_l2Affixes.l1])
    | succ k2 =>
     have H := HA.out
     clear HA
     simp only [spec_l2Affixes.l1] at H
     replace H := iudd_ H; rcases H with ⟨c7b0, H⟩ | ⟨c7b0, H⟩
     · have H' := Aside0.mk H
       clear H
       go_wp2
       repeat (go_quiet (fail); try go_wp2)
       go_roundg k2
       case measure => have := HK1.out; have := HK2.out; omega
       case rel => exact ⟨(wrap64 (x3_1 + 1)), rf_, H', ⟨by have := HK1.out; have := HK2.out; omega⟩, ⟨bl_⟩⟩
     replace H := ind_ H; obtain ⟨c8b0, H⟩ := H
     replace H := ind_ H; obtain ⟨c9b0, H⟩ := H
     replace H := ind_ H; obtain ⟨c10b0, H⟩ := H
     replace H := ind_ H; obtain ⟨c11b0, H⟩ := H
     replace H := itcc_ H; rcases H with ⟨c12, H⟩ | ⟨c12, H⟩
     · have c12b0 : ((((rd_T68 l0 x4_2).f0).toList) == (((rd_T68 l0 x3_1).f0).toList) && (((rd_T68 l0 x4_2).f1) == ((rd_T68 l0 x3_1).f1) && ((((rd_T68 l0 x4_2).f2).toList) == (((rd_T68 l0 x3_1).f2).toList) && ((((rd_T68 l0 x4_2).f3).toList) == (((rd_T68 l0 x3_1).f3).toList) && ((((rd_T68 l0 x4_2).f4).toList) == (((rd_T68 l0 x3_1).f4).toList)))))) = true := c12
       (try (have c12b1 : decide ((((rd_T68 l0 x4_2).f0).toList) = (((rd_T68 l0 x3_1).f0).toList) && (((rd_T68 l0 x4_2).f1) == ((rd_T68 l0 x3_1).f1) && ((((rd_T68 l0 x4_2).f2).toList) == (((rd_T68 l0 x3_1).f2).toList) && ((((rd_T68 l0 x4_2).f3).toList) == (((rd_T68 l0 x3_1).f3).toList) && ((((rd_T68 l0 x4_2).f4).toList) == (((rd_T68 l0 x3_1).f4).toList)))))) = true := by simpa using c12))
       (try (have c12b2 : ((((rd_T68 l0 x4_2).f0).toList) == (((rd_T68 l0 x3_1).f0).toList) && (((rd_T68 l0 x4_2).f1) == ((rd_T68 l0 x3_1).f1) && ((((rd_T68 l0 x4_2).f2).toList) == (((rd_T68 l0 x3_1).f2).toList) && ((((rd_T68 l0 x4_2).f3).toList) == (((rd_T68 l0 x3_1).f3).toList) && ((((rd_T68 l0 x4_2).f4).toList) == (((rd_T68 l0 x3_1).f4).toList)))))) = true := by simpa using c12))
       clear c12
       obtain rfl := Option.some.inj H
       have p250 : 0 ≤ (x4_2 : Int) := od_
       have q250 : x4_2 < (l0.length : Int) := od_
       obtain ⟨ad250, e250, hx250_0, hx250_1, hx250_2, hx250_3, hx250_4⟩ := at_T68 HR0.out x4_2 p250 q250
       obtain rfl : ad248 = ad250 := (by injection e250)
       replace hx250_0 := hc_ HB hx250_0
       replace hx250_1 := hc_ HB hx250_1
       replace hx250_2 := hc_ HB hx250_2
       replace hx250_3 := hc_ HB hx250_3
       replace hx250_4 := hc_ HB hx250_4
       replace p250 := eq_true p250; replace q250 := eq_true q250
       have p251 : 0 ≤ (x3_1 : Int) := od_
       have q251 : x3_1 < (l0.length : Int) := od_
       obtain ⟨ad251, e251, hx251_0, hx251_1, hx251_2, hx251_3, hx251_4⟩ := at_T68 HR0.out x3_1 p251 q251
       obtain rfl : ad248 = ad251 := (by injection e251)
       replace hx251_0 := hc_ HB hx251_0
       replace hx251_1 := hc_ HB hx251_1
       replace hx251_2 := hc_ HB hx251_2
       replace hx251_3 := hc_ HB hx251_3
       replace hx251_4 := hc_ HB hx251_4
       replace p251 := eq_true p251; replace q251 := eq_true q251
       go_wp2
       repeat (go_quiet (fail); try go_wp2)
       go_ret
       exact ⟨rfe_, bl_⟩
     have c12b0 : ((((rd_T68 l0 x4_2).f0).toList) == (((rd_T68 l0 x3_1).f0).toList) && (((rd_T68 l0 x4_2).f1) == ((rd_T68 l0 x3_1).f1) && ((((rd_T68 l0 x4_2).f2).toList) == (((rd_T68 l0 x3_1).f2).toList) && ((((rd_T68 l0 x4_2).f3).toList) == (((rd_T68 l0 x3_1).f3).toList) && ((((rd_T68 l0 x4_2).f4).toList) == (((rd_T68 l0 x3_1).f4).toList)))))) = false := by simpa using c12
     (try (have c12b1 : decide ((((rd_T68 l0 x4_2).f0).toList) = (((rd_T68 l0 x3_1).f0).toList) && (((rd_T68 l0 x4_2).f1) == ((rd_T68 l0 x3_1).f1) && ((((rd_T68 l0 x4_2).f2).toList) == (((rd_T68 l0 x3_1).f2).toList) && ((((rd_T68 l0 x4_2).f3).toList) == (((rd_T68 l0 x3_1).f3).toList) && ((((rd_T68 l0 x4_2).f4).toList) == (((rd_T68 l0 x3_1).f4).toList)))))) = false := by simpa using c12))
     (try (have c12b2 : ((((rd_T68 l0 x4_2).f0).toList) == (((rd_T68 l0 x3_1).f0).toList) && (((rd_T68 l0 x4_2).f1) == ((rd_T68 l0 x3_1).f1) && ((((rd_T68 l0 x4_2).f2).toList) == (((rd_T68 l0 x3_1).f2).toList) && ((((rd_T68 l0 x4_2).f3).toList) == (((rd_T68 l0 x3_1).f3).toList) && ((((rd_T68 l0 x4_2).f4).toList) == (((rd_T68 l0 x3_1).f4).toList)))))) = false := by simpa using c12))
     (try (have c12b3 : ¬ ((((rd_T68 l0 x4_2).f0).toList) = (((rd_T68 l0 x3_1).f0).toList) && (((rd_T68 l0 x4_2).f1) == ((rd_T68 l0 x3_1).f1) && ((((rd_T68 l0 x4_2).f2).toList) == (((rd_T68 l0 x3_1).f2).toList) && ((((rd_T68 l0 x4_2).f3).toList) == (((rd_T68 l0 x3_1).f3).toList) && ((((rd_T68 l0 x4_2).f4).toList) == (((rd_T68 l0 x3_1).f4).toList)))))) := by simpa using c12))
     clear c12
     have H' := Aside0.mk H; clear H
     have p250 : 0 ≤ (x4_2 : Int) := od_
     have q250 : x4_2 < (l0.length : Int) := od_
     obtain ⟨ad250, e250, hx250_0, hx250_1, hx250_2, hx250_3, hx250_4⟩ := at_T68 HR0.out x4_2 p250 q250
     obtain rfl : ad248 = ad250 := (by injection e250)
     replace hx250_0 := hc_ HB hx250_0
     replace hx250_1 := hc_ HB hx250_1
     replace hx250_2 := hc_ HB hx250_2
     replace hx250_3 := hc_ HB hx250_3
     replace hx250_4 := hc_ HB hx250_4
     replace p250 := eq_true p250; replace q250 := eq_true q250
     have p251 : 0 ≤ (x3_1 : Int) := od_
     have q251 : x3_1 < (l0.length : Int) := od_
     obtain ⟨ad251, e251, hx251_0, hx251_1, hx251_2, hx251_3, hx251_4⟩ := at_T68 HR0.out x3_1 p251 q251
     obtain rfl : ad248 = ad251 := (by injection e251)
     replace hx251_0 := hc_ HB hx251_0
     replace hx251_1 := hc_ HB hx251_1
     replace hx251_2 := hc_ HB hx251_2
     replace hx251_3 := hc_ HB hx251_3
     replace hx251_4 := hc_ HB hx251_4
     replace p251 := eq_true p251; replace q251 := eq_true q251
     go_wp2
     repeat (go_quiet (fail); try go_wp2)
     go_roundg k2
     case measure => have := HK1.out; have := HK2.out; omega
     case rel => exact ⟨(wrap64 (x4_2 + 1)), rf_, H', ⟨by have := HK1.out; have := HK2.out; omega⟩, ⟨bl_⟩⟩

end Go.Proofs.Ytbopiacjioedeaa.P
