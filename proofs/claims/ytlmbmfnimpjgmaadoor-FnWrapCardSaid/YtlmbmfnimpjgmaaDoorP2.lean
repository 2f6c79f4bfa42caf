-- Written by a program of this session (wip/gen/gen.py) out of Lean's print of the loaded program; Lean checks it.
import Derived.Test.YtlmbmfnimpjgmaaDoorP0
import Derived.Test.YtlmbmfnimpjgmaaDoorSq2
import Derived.Test.YtlmbmfnimpjgmaaDoorP1
namespace Go.Proofs.YtlmbmfnimpjgmaaDoor.P
open Go.RowKit Go.Proofs.YtlmbmfnimpjgmaaDoorW.PrintWords Go.Proofs.YtlmbmfnimpjgmaaDoorW.PrintLast Go.Proofs.YtlmbmfnimpjgmaaDoorW.PrintMore
attribute [local go_sem] max2_int min2_int max_two min_two max_three min_three max_four min_four IntKind.wrap_u8 IntKind.wrap_u32 w64_256 w64_u32
set_option maxHeartbeats 8000000
set_option maxRecDepth 100000
set_option linter.unusedVariables false
set_option linter.unusedSimpArgs false

/-! ### spec_PatternOk: function 46 -/
mutual
def spec_PatternOk.l0 : Nat → Int → Int → ByteArray → List Int → Option (Bool)
 | 0, _, _, _, _ => none
 | k + 1, x3, x4, x135000, x135001 => if x4 < x3 then (if 0 ≤ x4 then (if x4 < (x135000.size : Int) then (if (bt x135000 x4) = 46 then (if x4 = 0 then (spec_PatternOk.l0 k x3 (wrap64 (x4 + 1)) x135000 x135001) else (if (x4 = (wrap64 (x3 - 1))) then (spec_PatternOk.l0 k x3 (wrap64 (x4 + 1)) x135000 x135001) else (if (bt x135000 x4) < 97 then (some false) else (if (bt x135000 x4) > 122 then (some false) else (spec_PatternOk.l0 k x3 (wrap64 (x4 + 1)) x135000 x135001))))) else (if (bt x135000 x4) < 97 then (some false) else (if (bt x135000 x4) > 122 then (some false) else (spec_PatternOk.l0 k x3 (wrap64 (x4 + 1)) x135000 x135001)))) else (none)) else (none)) else (spec_PatternOk.l1 k x3 0 x135000 x135001)
def spec_PatternOk.l1 : Nat → Int → Int → ByteArray → List Int → Option (Bool)
 | 0, _, _, _, _ => none
 | k + 1, x3, x6, x135000, x135001 => if x6 < (x135001.length : Int) then (if 0 ≤ x6 then ((spec_l1In.f (rd x135001 x6) 0 9).bind fun t136 => (if t136 = true then (spec_PatternOk.l1 k x3 (wrap64 (x6 + 1)) x135000 x135001) else (some false))) else (none)) else ((spec_l1In.f x3 1 8).bind fun t137 => (if t137 = true then (some ((x135001.length : Int) == (wrap64 (x3 + 1)))) else (some false)))
end
def spec_PatternOk.f (k : Nat) (a0_0 : ByteArray) (l0_1 : List Int) : Option (Bool) := spec_PatternOk.l0 k (a0_0.size : Int) 0 a0_0 l0_1
theorem spec_PatternOk.mono_l : ∀ k, (∀ y0 y1 y2 y3, LeO (spec_PatternOk.l0 k y0 y1 y2 y3) (spec_PatternOk.l0 (k + 1) y0 y1 y2 y3)) ∧ (∀ y0 y1 y2 y3, LeO (spec_PatternOk.l1 k y0 y1 y2 y3) (spec_PatternOk.l1 (k + 1) y0 y1 y2 y3))
 | 0 => ⟨fun _ _ _ _ r h => by simp [spec_PatternOk.l0] at h, fun _ _ _ _ r h => by simp [spec_PatternOk.l1] at h⟩
 | k + 1 => by
  obtain ⟨ih0, ih1⟩ := spec_PatternOk.mono_l k
  refine ⟨?_, ?_⟩
  · intro y0 y1 y2 y3
    unfold spec_PatternOk.l0
    exact mn_
  · intro y0 y1 y2 y3
    unfold spec_PatternOk.l1
    exact mn_
theorem spec_PatternOk.mono : ∀ a0 a1 k, LeO (spec_PatternOk.f k a0 a1) (spec_PatternOk.f (k + 1) a0 a1) := by
 intro a0 a1 k
 obtain ⟨ih0, ih1⟩ := spec_PatternOk.mono_l k
 unfold spec_PatternOk.f
 exact mn_
theorem spec_PatternOk.calls (k : Nat) (a0_0 : ByteArray) (A0_1 : Option Addr) (c0_1 : Nat) (l0_1 : List Int) (r : Bool) (w : World) (hr0_1 : Kd.C (Kd.int .i64) w A0_1 l0_1.length l0_1) (hc0_1 : l0_1.length ≤ c0_1) (h : spec_PatternOk.f k a0_0 l0_1 = some r) :
 Calls Tryd.prog 46 #[.agg #[.string a0_0, .slice A0_1 l0_1.length c0_1]] w fun e w' => e = .returned (.bool r) ∧ Below w.heap.size w w' := by
 have hu42 := Tryd.underlying42
 have HR0_1 := Aside0.mk hr0_1
 have HC0_1 := Aside0.mk hc0_1
 clear hr0_1 hc0_1
 have HB := Aside0.mk (Below.refl w.heap.size w)
 unfold spec_PatternOk.f at h; have H := h; clear h
 have H' := Aside0.mk H; clear H
 go_enter Tryd.func46, Tryd.ntmps46
 go_wp2_with (first | ((with_reducible refine gate_dst (N := 1) rfl ?_); (try (refine gate_guard (by rfl) ?_; dsimp only)); refine be_ 1 42 #[.string a0_0, .slice A0_1 l0_1.length c0_1] ?_; intro gb134 hg w2 hbox hb; have BK134 := Aside0.mk (hbox); have GW134 := Aside0.mk ((gs_ hg : w.heap.size ≤ gb134)); have GE134 := Aside0.mk ((gs_ hg : w.heap.size ≤ gb134)); replace HB := Aside0.mk (below_step (bl_) hb); clear hb hbox hg; have hcz3_0 := bc0_ BK134; have hcz3_1 := bc1_ BK134; have hfz3_0 := blk_frozen BK134.out 0; have hfz3_1 := blk_frozen BK134.out 1))
 go_loopg [4] k (fun kq v4 w' => ∃ (x4_1 : Int), v4 = .int .i64 x4_1 ∧ Aside0 (spec_PatternOk.l0 kq (a0_0.size : Int) x4_1 a0_0 l0_1 = some r) ∧ Aside0 (kq ≤ k) ∧ Aside0 (w'.heap[gb134]? = some (.cells #[.string a0_0, (.slice A0_1 l0_1.length c0_1)] 42 (0, 0))) ∧ Aside0 (Below w.heap.size w w'))
 case atStart => exact ⟨(0), rf_, H', ⟨Nat.le_refl _⟩, ⟨by (with_reducible repeat (first | refine blk_drewN ?_ _ | refine blk_drew ?_ | refine blk_alloc ?_ _)); exact BK134.out⟩, ⟨bl_⟩⟩
 case round =>
  clear H'
  (try clear p2);(try clear hcz3_0);(try clear hcz3_1);(try clear hfz3_0);(try clear hfz3_1)
  obtain ⟨x4_1, rfl, HA, HK1, BK134, HB⟩ := hrel
  cases gk with
  | zero => exact absurd HA.out (by simp [spec_PatternOk.l0])
  | succ k1 =>
   have H := HA.out
   clear HA
   simp only [spec_PatternOk.l0] at H
   replace H := iudc_ H; rcases H with ⟨c4, H⟩ | ⟨c4b0, H⟩
   · have c4b0 : decide (x4_1 < (a0_0.size : Int)) = false := decide_eq_false c4
     clear c4
     have H' := Aside0.mk H; clear H
     go_wp2
     go_loopg [6] k1 (fun kq v6 w' => ∃ (x6_2 : Int), v6 = .int .i64 x6_2 ∧ Aside0 (spec_PatternOk.l1 kq (a0_0.size : Int) x6_2 a0_0 l0_1 = some r) ∧ Aside0 (kq ≤ k1) ∧ Aside0 (w'.heap[gb134]? = some (.cells #[.string a0_0, (.slice A0_1 l0_1.length c0_1)] 42 (0, 0))) ∧ Aside0 (Below w.heap.size w w'))
     case atStart => exact ⟨(0), rf_, H', ⟨Nat.le_refl _⟩, ⟨by (with_reducible repeat (first | refine blk_drewN ?_ _ | refine blk_drew ?_ | refine blk_alloc ?_ _)); exact BK134.out⟩, ⟨bl_⟩⟩
     case round =>
      clear H'
      (try clear c1);(try clear p1);(try clear q1);(try clear hx1);(try clear c2);(try clear p2);(try clear q2);(try clear hx2);(try clear c4);(try clear c4b0);(try clear c5);(try clear c5b0);(try clear c6);(try clear c6b0);(try clear p6);(try clear p7);(try clear q7);(try clear hx7);(try clear c8);(try clear c8b0);(try clear c8b1);(try clear c9);(try clear c9b0);(try clear c9b1);(try clear c11);(try clear c11b0);(try clear c11b1);(try clear p13);(try clear q13);(try clear hx13);(try clear c14);(try clear c14b0);(try clear p16);(try clear q16);(try clear hx16);(try clear c17);(try clear c17b0);(try clear p20);(try clear q20);(try clear hx20);(try clear c21);(try clear c21b0);(try clear p23);(try clear q23);(try clear hx23);(try clear c24);(try clear c24b0);(try clear hcz10_0);(try clear hcz10_1);(try clear hcz12_0);(try clear hcz12_1);(try clear hcz15_0);(try clear hcz15_1);(try clear hcz18_0);(try clear hcz18_1);(try clear hcz19_0);(try clear hcz19_1);(try clear hcz22_0);(try clear hcz22_1);(try clear hcz25_0);(try clear hcz25_1);(try clear hcz26_0);(try clear hcz26_1);(try clear hcz3_0);(try clear hcz3_1);(try clear hfz10_0);(try clear hfz10_1);(try clear hfz12_0);(try clear hfz12_1);(try clear hfz15_0);(try clear hfz15_1);(try clear hfz18_0);(try clear hfz18_1);(try clear hfz19_0);(try clear hfz19_1);(try clear hfz22_0);(try clear hfz22_1);(try clear hfz25_0);(try clear hfz25_1);(try clear hfz26_0);(try clear hfz26_1);(try clear hfz3_0);(try clear hfz3_1);(try clear p13);(try clear p16);(try clear p2);(try clear p20);(try clear p23);(try clear p7);(try clear q13);(try clear q16);(try clear q20);(try clear q23);(try clear q7)
      obtain ⟨x6_2, rfl, HA, HK2, BK134, HB⟩ := hrel
      cases gk with
      | zero => exact absurd HA.out (by simp [spec_PatternOk.l1])
      | succ k2 =>
       have H := HA.out
       clear HA
       simp only [spec_PatternOk.l1] at H
       replace H := iudd_ H; rcases H with ⟨c27b0, H⟩ | ⟨c27b0, H⟩
       · replace H := Option.bind_eq_some_iff.mp H
         obtain ⟨t137, A330, H⟩ := H; try dsimp -simprocs only at H
         have A33 := Aside0.mk A330
         clear A330
         replace H := itb_ H; rcases H with ⟨rfl, H⟩ | ⟨rfl, H⟩
         · obtain rfl := Option.some.inj H
           have hcz35_0 := bc0_ BK134
           have hcz35_1 := bc1_ BK134
           have hfz35_0 := blk_frozen BK134.out 0
           have hfz35_1 := blk_frozen BK134.out 1
           go_wp2_with (first | ((with_reducible refine gate_callee (f := 31) rfl ?_); refine gl_ 61 Tryd.func31 #[.int .i64 (a0_0.size : Int), .int .i64 1, .int .i64 8] ?_; (with_reducible refine (spec_l1In.calls (a0_0.size : Int) 1 8 true _ A33.out).mono ?_); rintro e w' ⟨rfl, ⟨nd, rfl⟩⟩; refine ⟨_, rfl, ?_⟩))
           go_ret
           exact ⟨rfe_, bl_⟩
         obtain rfl := Option.some.inj H
         have hcz36_0 := bc0_ BK134
         have hcz36_1 := bc1_ BK134
         have hfz36_0 := blk_frozen BK134.out 0
         have hfz36_1 := blk_frozen BK134.out 1
         go_wp2_with (first | ((with_reducible refine gate_callee (f := 31) rfl ?_); refine gl_ 61 Tryd.func31 #[.int .i64 (a0_0.size : Int), .int .i64 1, .int .i64 8] ?_; (with_reducible refine (spec_l1In.calls (a0_0.size : Int) 1 8 false _ A33.out).mono ?_); rintro e w' ⟨rfl, ⟨nd, rfl⟩⟩; refine ⟨_, rfl, ?_⟩))
         go_ret
         exact ⟨rfe_, bl_⟩
       replace H := ind_ H; obtain ⟨c28b0, H⟩ := H
       replace H := Option.bind_eq_some_iff.mp H
       obtain ⟨t136, A290, H⟩ := H; try dsimp -simprocs only at H
       have A29 := Aside0.mk A290
       clear A290
       replace H := iub_ H; rcases H with ⟨rfl, H⟩ | ⟨rfl, H⟩
       · obtain rfl := Option.some.inj H
         have hcz32_0 := bc0_ BK134
         have hcz32_1 := bc1_ BK134
         have hfz32_0 := blk_frozen BK134.out 0
         have hfz32_1 := blk_frozen BK134.out 1
         have p135 : 0 ≤ (x6_2 : Int) := od_
         have q135 : x6_2 < (l0_1.length : Int) := od_
         obtain ⟨ad135, e135, hx135_0⟩ := Kd.at_int HR0_1.out x6_2 p135 q135
         cases e135
         replace hx135_0 := hc_ HB hx135_0
         replace p135 := eq_true p135; replace q135 := eq_true q135
         go_wp2_with (first | ((with_reducible refine gate_callee (f := 31) rfl ?_); refine gl_ 58 Tryd.func31 #[.int .i64 (rd l0_1 x6_2), .int .i64 0, .int .i64 9] ?_; (with_reducible refine (spec_l1In.calls (rd l0_1 x6_2) 0 9 false _ A29.out).mono ?_); rintro e w' ⟨rfl, ⟨nd, rfl⟩⟩; refine ⟨_, rfl, ?_⟩))
         go_ret
         exact ⟨rfe_, bl_⟩
       have H' := Aside0.mk H; clear H
       have hcz31_0 := bc0_ BK134
       have hcz31_1 := bc1_ BK134
       have hfz31_0 := blk_frozen BK134.out 0
       have hfz31_1 := blk_frozen BK134.out 1
       have p135 : 0 ≤ (x6_2 : Int) := od_
       have q135 : x6_2 < (l0_1.length : Int) := od_
       obtain ⟨ad135, e135, hx135_0⟩ := Kd.at_int HR0_1.out x6_2 p135 q135
       cases e135
       replace hx135_0 := hc_ HB hx135_0
       replace p135 := eq_true p135; replace q135 := eq_true q135
       go_wp2_with (first | ((with_reducible refine gate_callee (f := 31) rfl ?_); refine gl_ 58 Tryd.func31 #[.int .i64 (rd l0_1 x6_2), .int .i64 0, .int .i64 9] ?_; (with_reducible refine (spec_l1In.calls (rd l0_1 x6_2) 0 9 true _ A29.out).mono ?_); rintro e w' ⟨rfl, ⟨nd, rfl⟩⟩; refine ⟨_, rfl, ?_⟩))
       go_roundg k2
       case measure => have := HK1.out; have := HK2.out; omega
       case rel => exact ⟨(wrap64 (x6_2 + 1)), rf_, H', ⟨by have := HK1.out; have := HK2.out; omega⟩, ⟨by (with_reducible repeat (first | refine blk_drewN ?_ _ | refine blk_drew ?_ | refine blk_alloc ?_ _)); exact BK134.out⟩, ⟨bl_⟩⟩
   replace H := ind_ H; obtain ⟨c5b0, H⟩ := H
   replace H := ind_ H; obtain ⟨c6b0, H⟩ := H
   replace H := iucc_ H; rcases H with ⟨c8, H⟩ | ⟨c8, H⟩
   · have c8b0 : ((bt a0_0 x4_1) == 46) = false := beq_eq_false_iff_ne.mpr c8
     have c8b1 : ((bt a0_0 x4_1) != 46) = true := bne_iff_ne.mpr c8
     replace H := itdd_ H; rcases H with ⟨c21b0, H⟩ | ⟨c21b0, H⟩
     · obtain rfl := Option.some.inj H
       have hcz22_0 := bc0_ BK134
       have hcz22_1 := bc1_ BK134
       have hfz22_0 := blk_frozen BK134.out 0
       have hfz22_1 := blk_frozen BK134.out 1
       have p7 : 0 ≤ (x4_1 : Int) := od_
       have q7 : x4_1 < (a0_0.size : Int) := od_
       have hx7 := bt_at a0_0 x4_1
       replace p7 := eq_true p7; replace q7 := eq_true q7
       have p20 : 0 ≤ (x4_1 : Int) := od_
       have q20 : x4_1 < (a0_0.size : Int) := od_
       have hx20 := bt_at a0_0 x4_1
       replace p20 := eq_true p20; replace q20 := eq_true q20
       go_wp2
       go_ret
       exact ⟨rfe_, bl_⟩
     replace H := itcc_ H; rcases H with ⟨c24, H⟩ | ⟨c24, H⟩
     · have c24b0 : decide (122 < (bt a0_0 x4_1)) = true := decide_eq_true c24
       clear c24
       obtain rfl := Option.some.inj H
       have hcz25_0 := bc0_ BK134
       have hcz25_1 := bc1_ BK134
       have hfz25_0 := blk_frozen BK134.out 0
       have hfz25_1 := blk_frozen BK134.out 1
       have p7 : 0 ≤ (x4_1 : Int) := od_
       have q7 : x4_1 < (a0_0.size : Int) := od_
       have hx7 := bt_at a0_0 x4_1
       replace p7 := eq_true p7; replace q7 := eq_true q7
       have p20 : 0 ≤ (x4_1 : Int) := od_
       have q20 : x4_1 < (a0_0.size : Int) := od_
       have hx20 := bt_at a0_0 x4_1
       replace p20 := eq_true p20; replace q20 := eq_true q20
       have p23 : 0 ≤ (x4_1 : Int) := od_
       have q23 : x4_1 < (a0_0.size : Int) := od_
       have hx23 := bt_at a0_0 x4_1
       replace p23 := eq_true p23; replace q23 := eq_true q23
       go_wp2
       go_ret
       exact ⟨rfe_, bl_⟩
     have c24b0 : decide (122 < (bt a0_0 x4_1)) = false := decide_eq_false c24
     clear c24
     have H' := Aside0.mk H; clear H
     have hcz26_0 := bc0_ BK134
     have hcz26_1 := bc1_ BK134
     have hfz26_0 := blk_frozen BK134.out 0
     have hfz26_1 := blk_frozen BK134.out 1
     have p7 : 0 ≤ (x4_1 : Int) := od_
     have q7 : x4_1 < (a0_0.size : Int) := od_
     have hx7 := bt_at a0_0 x4_1
     replace p7 := eq_true p7; replace q7 := eq_true q7
     have p20 : 0 ≤ (x4_1 : Int) := od_
     have q20 : x4_1 < (a0_0.size : Int) := od_
     have hx20 := bt_at a0_0 x4_1
     replace p20 := eq_true p20; replace q20 := eq_true q20
     have p23 : 0 ≤ (x4_1 : Int) := od_
     have q23 : x4_1 < (a0_0.size : Int) := od_
     have hx23 := bt_at a0_0 x4_1
     replace p23 := eq_true p23; replace q23 := eq_true q23
     go_wp2
     go_roundg k1
     case measure => have := HK1.out; omega
     case rel => exact ⟨(wrap64 (x4_1 + 1)), rf_, H', ⟨by have := HK1.out; omega⟩, ⟨by (with_reducible repeat (first | refine blk_drewN ?_ _ | refine blk_drew ?_ | refine blk_alloc ?_ _)); exact BK134.out⟩, ⟨bl_⟩⟩
   have c8b0 : ((bt a0_0 x4_1) == 46) = true := beq_iff_eq.mpr c8
   have c8b1 : ((bt a0_0 x4_1) != 46) = false := bne_eq_false_iff_eq.mpr c8
   clear c8
   replace H := itcc_ H; rcases H with ⟨c9, H⟩ | ⟨c9, H⟩
   · have c9b0 : (x4_1 == 0) = true := beq_iff_eq.mpr c9
     have c9b1 : (x4_1 != 0) = false := bne_eq_false_iff_eq.mpr c9
     clear c9
     have H' := Aside0.mk H; clear H
     have hcz10_0 := bc0_ BK134
     have hcz10_1 := bc1_ BK134
     have hfz10_0 := blk_frozen BK134.out 0
     have hfz10_1 := blk_frozen BK134.out 1
     have p7 : 0 ≤ (x4_1 : Int) := od_
     have q7 : x4_1 < (a0_0.size : Int) := od_
     have hx7 := bt_at a0_0 x4_1
     replace p7 := eq_true p7; replace q7 := eq_true q7
     go_wp2
     go_roundg k1
     case measure => have := HK1.out; omega
     case rel => exact ⟨(wrap64 (x4_1 + 1)), rf_, H', ⟨by have := HK1.out; omega⟩, ⟨by (with_reducible repeat (first | refine blk_drewN ?_ _ | refine blk_drew ?_ | refine blk_alloc ?_ _)); exact BK134.out⟩, ⟨bl_⟩⟩
   have c9b0 : (x4_1 == 0) = false := beq_eq_false_iff_ne.mpr c9
   have c9b1 : (x4_1 != 0) = true := bne_iff_ne.mpr c9
   replace H := itcc_ H; rcases H with ⟨c11, H⟩ | ⟨c11, H⟩
   · have c11b0 : (x4_1 == (wrap64 ((a0_0.size : Int) - 1))) = true := beq_iff_eq.mpr c11
     have c11b1 : (x4_1 != (wrap64 ((a0_0.size : Int) - 1))) = false := bne_eq_false_iff_eq.mpr c11
     clear c11
     have H' := Aside0.mk H; clear H
     have hcz12_0 := bc0_ BK134
     have hcz12_1 := bc1_ BK134
     have hfz12_0 := blk_frozen BK134.out 0
     have hfz12_1 := blk_frozen BK134.out 1
     have p7 : 0 ≤ (x4_1 : Int) := od_
     have q7 : x4_1 < (a0_0.size : Int) := od_
     have hx7 := bt_at a0_0 x4_1
     replace p7 := eq_true p7; replace q7 := eq_true q7
     go_wp2
     go_roundg k1
     case measure => have := HK1.out; omega
     case rel => exact ⟨(wrap64 (x4_1 + 1)), rf_, H', ⟨by have := HK1.out; omega⟩, ⟨by (with_reducible repeat (first | refine blk_drewN ?_ _ | refine blk_drew ?_ | refine blk_alloc ?_ _)); exact BK134.out⟩, ⟨bl_⟩⟩
   have c11b0 : (x4_1 == (wrap64 ((a0_0.size : Int) - 1))) = false := beq_eq_false_iff_ne.mpr c11
   have c11b1 : (x4_1 != (wrap64 ((a0_0.size : Int) - 1))) = true := bne_iff_ne.mpr c11
   replace H := itdd_ H; rcases H with ⟨c14b0, H⟩ | ⟨c14b0, H⟩
   · obtain rfl := Option.some.inj H
     have hcz15_0 := bc0_ BK134
     have hcz15_1 := bc1_ BK134
     have hfz15_0 := blk_frozen BK134.out 0
     have hfz15_1 := blk_frozen BK134.out 1
     have p7 : 0 ≤ (x4_1 : Int) := od_
     have q7 : x4_1 < (a0_0.size : Int) := od_
     have hx7 := bt_at a0_0 x4_1
     replace p7 := eq_true p7; replace q7 := eq_true q7
     have p13 : 0 ≤ (x4_1 : Int) := od_
     have q13 : x4_1 < (a0_0.size : Int) := od_
     have hx13 := bt_at a0_0 x4_1
     replace p13 := eq_true p13; replace q13 := eq_true q13
     go_wp2
     go_ret
     exact ⟨rfe_, bl_⟩
   replace H := itcc_ H; rcases H with ⟨c17, H⟩ | ⟨c17, H⟩
   · have c17b0 : decide (122 < (bt a0_0 x4_1)) = true := decide_eq_true c17
     clear c17
     obtain rfl := Option.some.inj H
     have hcz18_0 := bc0_ BK134
     have hcz18_1 := bc1_ BK134
     have hfz18_0 := blk_frozen BK134.out 0
     have hfz18_1 := blk_frozen BK134.out 1
     have p7 : 0 ≤ (x4_1 : Int) := od_
     have q7 : x4_1 < (a0_0.size : Int) := od_
     have hx7 := bt_at a0_0 x4_1
     replace p7 := eq_true p7; replace q7 := eq_true q7
     have p13 : 0 ≤ (x4_1 : Int) := od_
     have q13 : x4_1 < (a0_0.size : Int) := od_
     have hx13 := bt_at a0_0 x4_1
     replace p13 := eq_true p13; replace q13 := eq_true q13
     have p16 : 0 ≤ (x4_1 : Int) := od_
     have q16 : x4_1 < (a0_0.size : Int) := od_
     have hx16 := bt_at a0_0 x4_1
     replace p16 := eq_true p16; replace q16 := eq_true q16
     go_wp2
     go_ret
     exact ⟨rfe_, bl_⟩
   have c17b0 : decide (122 < (bt a0_0 x4_1)) = false := decide_eq_false c17
   clear c17
   have H' := Aside0.mk H; clear H
   have hcz19_0 := bc0_ BK134
   have hcz19_1 := bc1_ BK134
   have hfz19_0 := blk_frozen BK134.out 0
   have hfz19_1 := blk_frozen BK134.out 1
   have p7 : 0 ≤ (x4_1 : Int) := od_
   have q7 : x4_1 < (a0_0.size : Int) := od_
   have hx7 := bt_at a0_0 x4_1
   replace p7 := eq_true p7; replace q7 := eq_true q7
   have p13 : 0 ≤ (x4_1 : Int) := od_
   have q13 : x4_1 < (a0_0.size : Int) := od_
   have hx13 := bt_at a0_0 x4_1
   replace p13 := eq_true p13; replace q13 := eq_true q13
   have p16 : 0 ≤ (x4_1 : Int) := od_
   have q16 : x4_1 < (a0_0.size : Int) := od_
   have hx16 := bt_at a0_0 x4_1
   replace p16 := eq_true p16; replace q16 := eq_true q16
   go_wp2
   go_roundg k1
   case measure => have := HK1.out; omega
   case rel => exact ⟨(wrap64 (x4_1 + 1)), rf_, H', ⟨by have := HK1.out; omega⟩, ⟨by (with_reducible repeat (first | refine blk_drewN ?_ _ | refine blk_drew ?_ | refine blk_alloc ?_ _)); exact BK134.out⟩, ⟨bl_⟩⟩

/-! ### spec_l1Dec: function 74 -/
def spec_l1Dec.f : Nat → Int → Option (ByteArray)
 | 0, _ => none
 | k + 1, a0 => if a0 < (-9223372036854775807) then (some (⟨#[45, 57, 50, 50, 51, 51, 55, 50, 48, 51, 54, 56, 53, 52, 55, 55, 53, 56, 48, 56]⟩ : ByteArray)) else (if a0 < 0 then ((spec_l1Dec.f k (wrap64 (-a0))).bind fun t138 => (if 1 + t138.size ≤ 9223372036854775807 then (some ((⟨#[45]⟩ : ByteArray) ++ t138)) else (none))) else (if a0 < 10 then (some (strOfNums (([(wrap64 (48 + a0)) % 256] : List Int)))) else ((spec_l1Dec.f k (wrap64 (Int.tdiv a0 10))).bind fun t142 => ((some (([(wrap64 (48 + (Int.tmod a0 10))) % 256] : List Int) : List Int)).bind fun y143 => (if t142.size + (strOfNums y143).size ≤ 9223372036854775807 then (some (t142 ++ (strOfNums y143))) else (none))))))
theorem spec_l1Dec.mono_l : ∀ k, (∀ y0, LeO (spec_l1Dec.f k y0) (spec_l1Dec.f (k + 1) y0))
 | 0 => fun _ r h => by simp [spec_l1Dec.f] at h
 | k + 1 => by
  have ih0 := spec_l1Dec.mono_l k
  · intro y0
    unfold spec_l1Dec.f
    exact mn_
theorem spec_l1Dec.mono : ∀ a0 k, LeO (spec_l1Dec.f k a0) (spec_l1Dec.f (k + 1) a0) := by
 intro a0 k
 have ih0 := spec_l1Dec.mono_l k
 exact ih0 a0
def spec_l1Dec.T7 : Bool × List (List Nat × List Nat) := (true, [([], []), ([0], [0]), ([1], [1]), ([], []), ([3], [3]), ([4], [4]), ([5], [5]), ([6], [6]), ([7], [7]), ([2, 8], [2, 8]), ([9, 2, 0, 1, 2, 3, 4, 5, 6, 7, 8, 9], [9])])
def spec_l1Dec.B7 : List Nat := [0, 1, 3, 0, 8, 24, 56, 120, 248, 511, 1023]
theorem spec_l1Dec.tab7 : rtab .any (opsOf Tryd.f74 7) = spec_l1Dec.T7 := by kernel_rfl
theorem spec_l1Dec.bits7 : waitsOk spec_l1Dec.T7.2 spec_l1Dec.B7 = true := by kernel_rfl
theorem spec_l1Dec.calls (k : Nat) : ∀ (a0 : Int) (r : ByteArray) (w : World) (h : spec_l1Dec.f k a0 = some r),
 Calls Tryd.prog 74 #[.int .i64 a0] w fun e w' => e = .returned (.string r) ∧ Below w.heap.size w w' := by
 induction k using Nat.strongRecOn with
 | _ k ih =>
 intro a0 r w h
 cases k with
 | zero => exact absurd h (by simp [spec_l1Dec.f])
 | succ k =>
 simp only [spec_l1Dec.f] at h
 have HB := Aside0.mk (Below.refl w.heap.size w)
 have H : (if a0 < (-9223372036854775807) then (some (⟨#[45, 57, 50, 50, 51, 51, 55, 50, 48, 51, 54, 56, 53, 52, 55, 55, 53, 56, 48, 56]⟩ : ByteArray)) else (if a0 < 0 then ((spec_l1Dec.f k (wrap64 (-a0))).bind fun t138 => (if 1 + t138.size ≤ 9223372036854775807 then (some ((⟨#[45]⟩ : ByteArray) ++ t138)) else (none))) else (if a0 < 10 then (some (strOfNums (([(wrap64 (48 + a0)) % 256] : List Int)))) else ((spec_l1Dec.f k (wrap64 (Int.tdiv a0 10))).bind fun t142 => ((some (([(wrap64 (48 + (Int.tmod a0 10))) % 256] : List Int) : List Int)).bind fun y143 => (if t142.size + (strOfNums y143).size ≤ 9223372036854775807 then (some (t142 ++ (strOfNums y143))) else (none))))))) = some r := h
 clear h
 replace H := itdd_ H; rcases H with ⟨c2b0, H⟩ | ⟨c2b0, H⟩
 · obtain rfl := Option.some.inj H
   go_enter Tryd.func74, Tryd.ntmps74
   go_wp2
   go_ret
   exact ⟨rfe_, bl_⟩
 replace H := itdd_ H; rcases H with ⟨c3b0, H⟩ | ⟨c3b0, H⟩
 · replace H := Option.bind_eq_some_iff.mp H
   obtain ⟨t138, A40, H⟩ := H; try dsimp -simprocs only at H
   have A4 := Aside0.mk A40
   clear A40
   replace H := inc_ H; obtain ⟨c5, H⟩ := H
   have c5b0 := eq_true c5
   have c5b1 : decide (1 + t138.size ≤ 9223372036854775807) = true := decide_eq_true c5
   try have c5b2 : (9223372036854775807 < 1 + t138.size) = False := eq_false (Nat.not_lt.2 c5)
   obtain rfl := Option.some.inj H
   go_enter Tryd.func74, Tryd.ntmps74
   go_wp2_with (first | ((with_reducible refine gate_callee (f := 74) rfl ?_); refine gl_ 9 Tryd.func74 #[.int .i64 (wrap64 (-a0))] ?_; (with_reducible refine (ih k (by omega) (wrap64 (-a0)) t138 _ A4.out).mono ?_); rintro e w6 ⟨rfl, hb⟩; refine ⟨_, rfl, ?_⟩; replace HB := Aside0.mk (below_step (bl_) hb); (try clear hb); (try clear hb2); (try clear hk); (try clear hi)))
   go_ret
   exact ⟨rfe_, bl_⟩
 replace H := itdd_ H; rcases H with ⟨c7b0, H⟩ | ⟨c7b0, H⟩
 · obtain ⟨y139, hy_⟩ : ∃ y_ : List Int, y_ = (([(wrap64 (48 + a0)) % 256] : List Int)) := ⟨_, rfl⟩
   replace H : (some (strOfNums y139)) = some r := ry_
   have Ny139 := Aside0.mk hy_; clear hy_
   obtain rfl := Option.some.inj H
   go_enter Tryd.func74, Tryd.ntmps74
   go_wp2_with (first | ((with_reducible refine gate_dst (N := 16) rfl ?_); refine rl_ (Kd.int .u8) 5 16 ([(wrap64 (48 + a0)) % 256] : List Int) [.int .u8 ((wrap64 (48 + a0)) % 256)] ?_; intro v140 w8 ho9 hb hg_ hnew_; clear hg_ hnew_; (first | rw [← Ny139.out] at ho9 | (simp only [Int.reduceToNat] at ho9; rw [← Ny139.out] at ho9)); have HO141 := Aside0.mk (Kd.R_lower ho9 (below_size (bl_))); replace HB := Aside0.mk (below_step (bl_) hb); clear hb ho9; have hcv10 := own_string (P := Tryd.prog) Tryd.underlying22 Tryd.underlying5 Tryd.underlying9 (Kd.own_of_R HO141.out)))
   go_ret
   exact ⟨rfe_, bl_⟩
 replace H := Option.bind_eq_some_iff.mp H
 obtain ⟨t142, A110, H⟩ := H; try dsimp -simprocs only at H
 have A11 := Aside0.mk A110
 clear A110
 obtain ⟨y143, hy_⟩ : ∃ y_ : List Int, y_ = (([(wrap64 (48 + (Int.tmod a0 10))) % 256] : List Int)) := ⟨_, rfl⟩
 replace H : (if t142.size + (strOfNums y143).size ≤ 9223372036854775807 then (some (t142 ++ (strOfNums y143))) else (none)) = some r := ry_
 have Ny143 := Aside0.mk hy_; clear hy_
 replace H := inc_ H; obtain ⟨c12, H⟩ := H
 have c12b0 := eq_true c12
 have c12b1 : decide (t142.size + (strOfNums y143).size ≤ 9223372036854775807) = true := decide_eq_true c12
 try have c12b2 : (9223372036854775807 < t142.size + (strOfNums y143).size) = False := eq_false (Nat.not_lt.2 c12)
 obtain rfl := Option.some.inj H
 go_enter Tryd.func74, Tryd.ntmps74
 try go_wp2
 replace HB := Aside0.mk (below_drew1 HB.out)
 refine start_ (n := 11) (S := fun w' => True) (ds := []) (bm 11 0) (by kernel_rfl) rfl rfl trivial (fun hHeld => ?_); refine with_tabW spec_l1Dec.tab7 spec_l1Dec.bits7 (fun HT_ HW_ => ?_)
 generalize w.drew = w13 at HB hHeld ⊢
 refine sp_ 0 (some 18) (bm 11 1) HT_ (h := ?_)
 refine sp_ 1 (some 19) (bm 11 3) HT_ (h := ?_)
 refine sp_ 3 (some 21) (bm 11 11) HT_ (h := ?_)
 refine sp_ 4 (some 22) (bm 11 27) HT_ (h := ?_)
 refine sp_ 5 (some 23) (bm 11 59) HT_ (h := ?_)
 refine sp_ 6 (some 24) (bm 11 123) HT_ (h := ?_)
 refine join_ (σ := Value) 2 (bm 11 511) (fun s_ => [(20, .string t142), (25, s_), (26, .string (strOfNums y143))]) (fun s_ w' => (Kd.R (Kd.int .u8) 5 w' w.heap.size (fun _ => True) s_ y143) ∧ (Below w.heap.size w w')) ?_ ?_
 rotate_left
 · intro hCont
   refine two_ (i := 2) (j := 7) (Ni := some 20) (Nj := some 25) (bm 11 127) (bm 11 251) rfl rfl rfl rfl (two_of HT_.out (by kernel_rfl)) (by decide) (by decide) (fun K hK => ?_) (fun K hK => ?_)
   · skip
     refine goes_ Tryd.func74 (by kernel_rfl) rfl #[.int .i64 (wrap64 (Int.tdiv a0 10))] (by rfl) rfl rfl (by (try simp only [List.map_toArray, List.map_cons, List.map_nil]); first | done | rfl | (simp only [List.length_drop, List.length_take]; rfl)) ?_
     with_reducible refine (ih k (by omega) (wrap64 (Int.tdiv a0 10)) t142 _ A11.out).mono ?_
     rintro e w14 ⟨rfl, hb⟩
     refine ⟨_, rfl, ?_⟩
     replace HB := Aside0.mk (below_step (bl_) hb)
     (try clear hb)
     (try clear hb2)
     (try clear hk)
     (try clear hi)
     refine hK.out _ _ trivial (fun hHeld => ?_)
     clear hK K
     refine nm_ ?_
     refine sn_ 7 (some 25) (bm 11 255) HT_ (fun K hK => ?_)
     refine Kd.R_lit_step (Kd.int .u8) _ 5 ?hg (N := 25) ?hd (xs := ([(wrap64 (48 + (Int.tmod a0 10))) % 256] : List Int)) (inner := [.int .u8 ((wrap64 (48 + (Int.tmod a0 10))) % 256)]) (ok := fun _ => True) (okp := fun _ => True) ?hr ?hp (fun _ hk => hk) trivial (Below.refl _ _) (Nat.le_refl _) (by simp) ?_; (case hd => rfl); (case hg => rfl); (case hr => first | (go_simp; done) | (go_simp; rfl)); (case hp => exact (Reps.one (show Kd.M (Kd.int .u8) _ _ _ ((wrap64 (48 + (Int.tmod a0 10))) % 256) [.int .u8 ((wrap64 (48 + (Int.tmod a0 10))) % 256)] from rfl) (Reps.none _ _)))
     intro v144 w15 ho16 hb hg_ hnew_
     clear hg_ hnew_
     (first | rw [← Ny143.out] at ho16 | (simp only [Int.reduceToNat] at ho16; rw [← Ny143.out] at ho16))
     have HO145 := Aside0.mk (Kd.R_lower ho16 (below_size (bl_)))
     replace HB := Aside0.mk (below_step (bl_) hb)
     clear hb ho16
     refine hK.out _ _ trivial (fun hHeld => ?_)
     clear hK K
     refine nm_ ?_
     refine sn_ 8 (some 26) (bm 11 511) HT_ (fun K hK => ?_)
     have hcv17 := own_string (P := Tryd.prog) Tryd.underlying22 Tryd.underlying5 Tryd.underlying9 (Kd.own_of_R HO145.out)
     refine vl_ ?_
     clear hcv17
     refine hK.out _ _ trivial (fun hHeld => ?_)
     clear hK K
     refine nm_ ?_
     exact norm_ (by simp only [putAll, Act.put, List.setIfInBounds_toArray, List.set_cons_zero, List.set_cons_succ]) (hCont (v144) _ ⟨(kR_ HO145), (bl_)⟩)
   · skip
     refine Kd.R_lit_step (Kd.int .u8) _ 5 ?hg (N := 25) ?hd (xs := ([(wrap64 (48 + (Int.tmod a0 10))) % 256] : List Int)) (inner := [.int .u8 ((wrap64 (48 + (Int.tmod a0 10))) % 256)]) (ok := fun _ => True) (okp := fun _ => True) ?hr ?hp (fun _ hk => hk) trivial (Below.refl _ _) (Nat.le_refl _) (by simp) ?_; (case hd => rfl); (case hg => rfl); (case hr => first | (go_simp; done) | (go_simp; rfl)); (case hp => exact (Reps.one (show Kd.M (Kd.int .u8) _ _ _ ((wrap64 (48 + (Int.tmod a0 10))) % 256) [.int .u8 ((wrap64 (48 + (Int.tmod a0 10))) % 256)] from rfl) (Reps.none _ _)))
     intro v144 w14 ho15 hb hg_ hnew_
     clear hg_ hnew_
     (first | rw [← Ny143.out] at ho15 | (simp only [Int.reduceToNat] at ho15; rw [← Ny143.out] at ho15))
     have HO145 := Aside0.mk (Kd.R_lower ho15 (below_size (bl_)))
     replace HB := Aside0.mk (below_step (bl_) hb)
     clear hb ho15
     refine hK.out _ _ trivial (fun hHeld => ?_)
     clear hK K
     refine nm_ ?_
     refine two_ (i := 2) (j := 8) (Ni := some 20) (Nj := some 26) (bm 11 255) (bm 11 507) rfl rfl rfl rfl (two_of HT_.out (by kernel_rfl)) (by decide) (by decide) (fun K hK => ?_) (fun K hK => ?_)
     · skip
       refine goes_ Tryd.func74 (by kernel_rfl) rfl #[.int .i64 (wrap64 (Int.tdiv a0 10))] (by rfl) rfl rfl (by (try simp only [List.map_toArray, List.map_cons, List.map_nil]); first | done | rfl | (simp only [List.length_drop, List.length_take]; rfl)) ?_
       with_reducible refine (ih k (by omega) (wrap64 (Int.tdiv a0 10)) t142 _ A11.out).mono ?_
       rintro e w16 ⟨rfl, hb⟩
       refine ⟨_, rfl, ?_⟩
       replace HO145 := Aside0.mk (Kd.R_below (kR_ HO145) hb)
       replace HB := Aside0.mk (below_step (bl_) hb)
       (try clear hb)
       (try clear hb2)
       (try clear hk)
       (try clear hi)
       refine hK.out _ _ trivial (fun hHeld => ?_)
       clear hK K
       refine nm_ ?_
       refine sn_ 8 (some 26) (bm 11 511) HT_ (fun K hK => ?_)
       have hcv17 := own_string (P := Tryd.prog) Tryd.underlying22 Tryd.underlying5 Tryd.underlying9 (Kd.own_of_R HO145.out)
       refine vl_ ?_
       clear hcv17
       refine hK.out _ _ trivial (fun hHeld => ?_)
       clear hK K
       refine nm_ ?_
       exact norm_ (by simp only [putAll, Act.put, List.setIfInBounds_toArray, List.set_cons_zero, List.set_cons_succ]) (hCont (v144) _ ⟨(kR_ HO145), (bl_)⟩)
     · skip
       have hcv16 := own_string (P := Tryd.prog) Tryd.underlying22 Tryd.underlying5 Tryd.underlying9 (Kd.own_of_R HO145.out)
       refine vl_ ?_
       clear hcv16
       refine hK.out _ _ trivial (fun hHeld => ?_)
       clear hK K
       refine nm_ ?_
       refine sn_ 2 (some 20) (bm 11 511) HT_ (fun K hK => ?_)
       refine goes_ Tryd.func74 (by kernel_rfl) rfl #[.int .i64 (wrap64 (Int.tdiv a0 10))] (by rfl) rfl rfl (by (try simp only [List.map_toArray, List.map_cons, List.map_nil]); first | done | rfl | (simp only [List.length_drop, List.length_take]; rfl)) ?_
       with_reducible refine (ih k (by omega) (wrap64 (Int.tdiv a0 10)) t142 _ A11.out).mono ?_
       rintro e w17 ⟨rfl, hb⟩
       refine ⟨_, rfl, ?_⟩
       replace HO145 := Aside0.mk (Kd.R_below (kR_ HO145) hb)
       replace HB := Aside0.mk (below_step (bl_) hb)
       (try clear hb)
       (try clear hb2)
       (try clear hk)
       (try clear hi)
       refine hK.out _ _ trivial (fun hHeld => ?_)
       clear hK K
       refine nm_ ?_
       exact norm_ (by simp only [putAll, Act.put, List.setIfInBounds_toArray, List.set_cons_zero, List.set_cons_succ]) (hCont (v144) _ ⟨(kR_ HO145), (bl_)⟩)
 rintro v144 w18 ⟨h0_, h1_⟩
 have n0_ : Aside0 (Kd.R (Kd.int .u8) 5 w18 w.heap.size (fun _ => True) v144 y143) := ⟨h0_⟩
 have n1_ : Aside0 (Below w.heap.size w w18) := ⟨h1_⟩
 clear HB
 clear h0_ h1_
 have HO145 := n0_
 have HB := n1_
 clear n0_ n1_
 have hHeld := trivial
 refine norm_ (a' := ?_) ?_ ?_
 rotate_left
 · simp only [putAll, Act.put, List.setIfInBounds_toArray, List.set_cons_zero, List.set_cons_succ]
   rfl
 refine sp_ 9 (some 27) (bm 11 1023) HT_ (h := ?_)
 refine sp_ 10 (some 2) (bm 11 2047) HT_ (h := ?_)
 refine done_ (done_of HT_.out (by kernel_rfl)) ?_
 try go_wp2
 go_ret
 exact ⟨rfe_, bl_⟩

end Go.Proofs.YtlmbmfnimpjgmaaDoor.P
