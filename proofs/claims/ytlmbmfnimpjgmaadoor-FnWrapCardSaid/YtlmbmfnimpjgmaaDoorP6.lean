-- Written by a program of this session (wip/gen/gen.py) out of Lean's print of the loaded program; Lean checks it.
import Derived.Test.YtlmbmfnimpjgmaaDoorP0
import Derived.Test.YtlmbmfnimpjgmaaDoorSq2
import Derived.Test.YtlmbmfnimpjgmaaDoorP5
namespace Go.Proofs.YtlmbmfnimpjgmaaDoor.P
open Go.RowKit Go.Proofs.YtlmbmfnimpjgmaaDoorW.PrintWords Go.Proofs.YtlmbmfnimpjgmaaDoorW.PrintLast Go.Proofs.YtlmbmfnimpjgmaaDoorW.PrintMore
attribute [local go_sem] max2_int min2_int max_two min_two max_three min_three max_four min_four IntKind.wrap_u8 IntKind.wrap_u32 w64_256 w64_u32
set_option maxHeartbeats 8000000
set_option maxRecDepth 100000
set_option linter.unusedVariables false
set_option linter.unusedSimpArgs false

/-! ### impl_PatternOk: function 39 -/
mutual
def impl_PatternOk.j0 : Nat → Bool → ByteArray → List Int → Option (Bool)
 | 0, _, _, _ => none
 | k + 1, x21, x296000, x296001 => if x21 = true then (some false) else (impl_PatternOk.l0 k (x296000.size : Int) 0 x296000 x296001)
def impl_PatternOk.l0 : Nat → Int → Int → ByteArray → List Int → Option (Bool)
 | 0, _, _, _, _ => none
 | k + 1, x24, x25, x296000, x296001 => if x25 < x24 then (if 0 ≤ x25 then (if x25 < (x296000.size : Int) then (if (bt x296000 x25) = 46 then (if x25 = 0 then (impl_PatternOk.l0 k x24 (wrap64 (x25 + 1)) x296000 x296001) else (if (x25 = (wrap64 ((x296000.size : Int) - 1))) then (impl_PatternOk.l0 k x24 (wrap64 (x25 + 1)) x296000 x296001) else (if x25 ≤ (wrap64 (x25 + 1)) then (if (wrap64 (x25 + 1)) ≤ (x296000.size : Int) then ((impl_lower.f k (x296000.extract (x25 : Int).toNat ((wrap64 (x25 + 1)) : Int).toNat)).bind fun t297 => (if t297 = true then (impl_PatternOk.l0 k x24 (wrap64 (x25 + 1)) x296000 x296001) else (some false))) else (none)) else (none)))) else (if x25 ≤ (wrap64 (x25 + 1)) then (if (wrap64 (x25 + 1)) ≤ (x296000.size : Int) then ((impl_lower.f k (x296000.extract (x25 : Int).toNat ((wrap64 (x25 + 1)) : Int).toNat)).bind fun t298 => (if t298 = true then (impl_PatternOk.l0 k x24 (wrap64 (x25 + 1)) x296000 x296001) else (some false))) else (none)) else (none))) else (none)) else (none)) else (impl_PatternOk.l1 k x296001 (x296001.length : Int) 0)
def impl_PatternOk.l1 : Nat → List Int → Int → Int → Option (Bool)
 | 0, _, _, _ => none
 | k + 1, x59, x60, x61 => if x61 < x60 then (if 0 ≤ x61 then (if x61 < (x59.length : Int) then ((impl_within.f (rd x59 x61) 0 9).bind fun t300 => (if t300 = true then (impl_PatternOk.l1 k x59 x60 (wrap64 (x61 + 1))) else (some false))) else (none)) else (none)) else (some true)
end
def impl_PatternOk.f (k : Nat) (a0_0 : ByteArray) (l0_1 : List Int) : Option (Bool) := (impl_within.f (a0_0.size : Int) 1 8).bind fun t296 => (if t296 = true then (impl_PatternOk.j0 k ((l0_1.length : Int) != (wrap64 ((a0_0.size : Int) + 1))) a0_0 l0_1) else (impl_PatternOk.j0 k true a0_0 l0_1))
theorem impl_PatternOk.mono_l : ∀ k, (∀ y0 y1 y2, LeO (impl_PatternOk.j0 k y0 y1 y2) (impl_PatternOk.j0 (k + 1) y0 y1 y2)) ∧ (∀ y0 y1 y2 y3, LeO (impl_PatternOk.l0 k y0 y1 y2 y3) (impl_PatternOk.l0 (k + 1) y0 y1 y2 y3)) ∧ (∀ y0 y1 y2, LeO (impl_PatternOk.l1 k y0 y1 y2) (impl_PatternOk.l1 (k + 1) y0 y1 y2))
 | 0 => ⟨fun _ _ _ r h => by simp [impl_PatternOk.j0] at h, fun _ _ _ _ r h => by simp [impl_PatternOk.l0] at h, fun _ _ _ r h => by simp [impl_PatternOk.l1] at h⟩
 | k + 1 => by
  obtain ⟨ih0, ih1, ih2⟩ := impl_PatternOk.mono_l k
  refine ⟨?_, ?_, ?_⟩
  · intro y0 y1 y2
    unfold impl_PatternOk.j0
    have m0 := @impl_lower.mono
    exact mn_
  · intro y0 y1 y2 y3
    unfold impl_PatternOk.l0
    have m0 := @impl_lower.mono
    exact mn_
  · intro y0 y1 y2
    unfold impl_PatternOk.l1
    have m0 := @impl_lower.mono
    exact mn_
theorem impl_PatternOk.mono : ∀ a0 a1 k, LeO (impl_PatternOk.f k a0 a1) (impl_PatternOk.f (k + 1) a0 a1) := by
 intro a0 a1 k
 obtain ⟨ih0, ih1, ih2⟩ := impl_PatternOk.mono_l k
 unfold impl_PatternOk.f
 have m0 := @impl_lower.mono
 exact mn_
theorem impl_PatternOk.calls (k : Nat) (a0_0 : ByteArray) (A0_1 : Option Addr) (c0_1 : Nat) (l0_1 : List Int) (r : Bool) (w : World) (hr0_1 : Kd.C (Kd.int .i64) w A0_1 l0_1.length l0_1) (hc0_1 : l0_1.length ≤ c0_1) (h : impl_PatternOk.f k a0_0 l0_1 = some r) :
 Calls Tryd.prog 39 #[.agg #[.string a0_0, .slice A0_1 l0_1.length c0_1]] w fun e w' => e = .returned (.bool r) ∧ Below w.heap.size w w' := by
 have hu42 := Tryd.underlying42
 have HR0_1 := Aside0.mk hr0_1
 have HC0_1 := Aside0.mk hc0_1
 clear hr0_1 hc0_1
 have HB := Aside0.mk (Below.refl w.heap.size w)
 unfold impl_PatternOk.f at h; have H := h; clear h
 have HC2 := Aside0.mk H
 clear H
 go_enter Tryd.func39, Tryd.ntmps39
 go_upto_region 1 with (first | ((with_reducible refine gate_dst (N := 1) rfl ?_); (try (refine gate_guard (by rfl) ?_; dsimp only)); refine be_ 1 42 #[.string a0_0, .slice A0_1 l0_1.length c0_1] ?_; intro gb295 hg w3 hbox hb; have BK295 := Aside0.mk (hbox); have GW295 := Aside0.mk ((gs_ hg : w.heap.size ≤ gb295)); have GE295 := Aside0.mk ((gs_ hg : w.heap.size ≤ gb295)); replace HB := Aside0.mk (below_step (bl_) hb); clear hb hbox hg))
 (try simp only [Act.put, List.setIfInBounds_toArray, List.set_cons_zero, List.set_cons_succ])
 go_cut [21] (fun v21 wc => ∃ (kq : Nat) (x21_1 : Bool), v21 = .bool x21_1 ∧ Aside0 (impl_PatternOk.j0 kq x21_1 a0_0 l0_1 = some r) ∧ Aside0 (kq ≤ k) ∧ Aside0 (wc.heap[gb295]? = some (.cells #[.string a0_0, (.slice A0_1 l0_1.length c0_1)] 42 (0, 0))) ∧ Aside0 (Below w.heap.size w wc))
 case first =>
  have H := HC2.out
  clear HC2
  replace H := Option.bind_eq_some_iff.mp H
  obtain ⟨t296, A40, H⟩ := H; try dsimp -simprocs only at H
  have A4 := Aside0.mk A40
  clear A40
  replace H := iub_ H; rcases H with ⟨rfl, H⟩ | ⟨rfl, H⟩
  · have H' := Aside0.mk H
    clear H
    have hcz7_0 := bc0_ BK295
    have hcz7_1 := bc1_ BK295
    have hfz7_0 := blk_frozen BK295.out 0
    have hfz7_1 := blk_frozen BK295.out 1
    go_wp2_with (first | ((with_reducible refine gate_callee (f := 23) rfl ?_); refine gl_ 10 Tryd.func23 #[.int .i64 (a0_0.size : Int), .int .i64 1, .int .i64 8] ?_; (with_reducible refine (impl_within.calls (a0_0.size : Int) 1 8 false _ A4.out).mono ?_); rintro e w' ⟨rfl, ⟨nd, rfl⟩⟩; refine ⟨_, rfl, ?_⟩))
    go_meet
    case rel => exact ⟨_, (true), rf_, H', ⟨by first | omega | exact Nat.le_refl _⟩, ⟨by (with_reducible repeat (first | refine blk_drewN ?_ _ | refine blk_drew ?_ | refine blk_alloc ?_ _)); exact BK295.out⟩, ⟨bl_⟩⟩
  have H' := Aside0.mk H; clear H
  have hcz6_0 := bc0_ BK295
  have hcz6_1 := bc1_ BK295
  have hfz6_0 := blk_frozen BK295.out 0
  have hfz6_1 := blk_frozen BK295.out 1
  go_wp2_with (first | ((with_reducible refine gate_callee (f := 23) rfl ?_); refine gl_ 10 Tryd.func23 #[.int .i64 (a0_0.size : Int), .int .i64 1, .int .i64 8] ?_; (with_reducible refine (impl_within.calls (a0_0.size : Int) 1 8 true _ A4.out).mono ?_); rintro e w' ⟨rfl, ⟨nd, rfl⟩⟩; refine ⟨_, rfl, ?_⟩))
  go_meet
  case rel => exact ⟨_, (((l0_1.length : Int) != (wrap64 ((a0_0.size : Int) + 1)))), rf_, H', ⟨by first | omega | exact Nat.le_refl _⟩, ⟨by (with_reducible repeat (first | refine blk_drewN ?_ _ | refine blk_drew ?_ | refine blk_alloc ?_ _)); exact BK295.out⟩, ⟨bl_⟩⟩
 case rest =>
  clear HC2
  (try clear c2);(try clear p2);(try clear c3);(try clear c5);(try clear p6);(try clear hcz6_0);(try clear hcz6_1);(try clear hcz7_0);(try clear hcz7_1);(try clear hfz6_0);(try clear hfz6_1);(try clear hfz7_0);(try clear hfz7_1)
  obtain ⟨kq, x21_1, rfl, HA, HJ1, BK295, HB⟩ := hcut
  cases kq with
  | zero => exact absurd HA.out (by simp [impl_PatternOk.j0])
  | succ kj1 =>
   have H := HA.out
   clear HA
   simp only [impl_PatternOk.j0] at H
   replace H := itb_ H; rcases H with ⟨rfl, H⟩ | ⟨rfl, H⟩
   · obtain rfl := Option.some.inj H
     go_wp2
     go_ret
     exact ⟨rfe_, bl_⟩
   have H' := Aside0.mk H; clear H
   have hcz9_0 := bc0_ BK295
   have hcz9_1 := bc1_ BK295
   have hfz9_0 := blk_frozen BK295.out 0
   have hfz9_1 := blk_frozen BK295.out 1
   go_wp2
   go_loopg [25] kj1 (fun kq v25 w' => ∃ (x25_2 : Int), v25 = .int .i64 x25_2 ∧ Aside0 (impl_PatternOk.l0 kq (a0_0.size : Int) x25_2 a0_0 l0_1 = some r) ∧ Aside0 (kq ≤ kj1) ∧ Aside0 (w'.heap[gb295]? = some (.cells #[.string a0_0, (.slice A0_1 l0_1.length c0_1)] 42 (0, 0))) ∧ Aside0 (Below w.heap.size w w'))
   case atStart => exact ⟨(0), rf_, H', ⟨Nat.le_refl _⟩, ⟨by (with_reducible repeat (first | refine blk_drewN ?_ _ | refine blk_drew ?_ | refine blk_alloc ?_ _)); exact BK295.out⟩, ⟨bl_⟩⟩
   case round =>
    clear H'
    (try clear c2);(try clear p2);(try clear c3);(try clear c5);(try clear p6);(try clear c8);(try clear hcz6_0);(try clear hcz6_1);(try clear hcz7_0);(try clear hcz7_1);(try clear hcz9_0);(try clear hcz9_1);(try clear hfz6_0);(try clear hfz6_1);(try clear hfz7_0);(try clear hfz7_1);(try clear hfz9_0);(try clear hfz9_1);(try clear p2);(try clear p6)
    obtain ⟨x25_2, rfl, HA, HK2, BK295, HB⟩ := hrel
    cases gk with
    | zero => exact absurd HA.out (by simp [impl_PatternOk.l0])
    | succ k2 =>
     have H := HA.out
     clear HA
     simp only [impl_PatternOk.l0] at H
     replace H := iudc_ H; rcases H with ⟨c10, H⟩ | ⟨c10b0, H⟩
     · have c10b0 : decide (x25_2 < (a0_0.size : Int)) = false := decide_eq_false c10
       clear c10
       have H' := Aside0.mk H; clear H
       have hcz33_0 := bc0_ BK295
       have hcz33_1 := bc1_ BK295
       have hfz33_0 := blk_frozen BK295.out 0
       have hfz33_1 := blk_frozen BK295.out 1
       go_wp2
       go_loopg [61] k2 (fun kq v61 w' => ∃ (x61_3 : Int), v61 = .int .i64 x61_3 ∧ Aside0 (impl_PatternOk.l1 kq l0_1 (l0_1.length : Int) x61_3 = some r) ∧ Aside0 (kq ≤ k2) ∧ Aside0 (w'.heap[gb295]? = some (.cells #[.string a0_0, (.slice A0_1 l0_1.length c0_1)] 42 (0, 0))) ∧ Aside0 (Below w.heap.size w w'))
       case atStart => exact ⟨(0), rf_, H', ⟨Nat.le_refl _⟩, ⟨by (with_reducible repeat (first | refine blk_drewN ?_ _ | refine blk_drew ?_ | refine blk_alloc ?_ _)); exact BK295.out⟩, ⟨bl_⟩⟩
       case round =>
        clear H'
        (try clear c1);(try clear p1);(try clear q1);(try clear hx1);(try clear c2);(try clear p2);(try clear c3);(try clear c5);(try clear p6);(try clear c8);(try clear c10);(try clear c10b0);(try clear c11);(try clear c11b0);(try clear c12);(try clear c12b0);(try clear p13);(try clear q13);(try clear hx13);(try clear c14);(try clear c14b0);(try clear c14b1);(try clear c15);(try clear c15b0);(try clear c15b1);(try clear c17);(try clear c17b0);(try clear c17b1);(try clear c19);(try clear c19b0);(try clear c20);(try clear c20b0);(try clear c20b1);(try clear c21);(try clear c21b0);(try clear c21b1);(try clear c23);(try clear c26);(try clear c26b0);(try clear c27);(try clear c27b0);(try clear c27b1);(try clear c28);(try clear c28b0);(try clear c28b1);(try clear c30);(try clear hcz16_0);(try clear hcz16_1);(try clear hcz18_0);(try clear hcz18_1);(try clear hcz24_0);(try clear hcz24_1);(try clear hcz25_0);(try clear hcz25_1);(try clear hcz31_0);(try clear hcz31_1);(try clear hcz32_0);(try clear hcz32_1);(try clear hcz33_0);(try clear hcz33_1);(try clear hcz6_0);(try clear hcz6_1);(try clear hcz7_0);(try clear hcz7_1);(try clear hcz9_0);(try clear hcz9_1);(try clear hfz16_0);(try clear hfz16_1);(try clear hfz18_0);(try clear hfz18_1);(try clear hfz24_0);(try clear hfz24_1);(try clear hfz25_0);(try clear hfz25_1);(try clear hfz31_0);(try clear hfz31_1);(try clear hfz32_0);(try clear hfz32_1);(try clear hfz33_0);(try clear hfz33_1);(try clear hfz6_0);(try clear hfz6_1);(try clear hfz7_0);(try clear hfz7_1);(try clear hfz9_0);(try clear hfz9_1);(try clear p13);(try clear p2);(try clear p6);(try clear q13)
        obtain ⟨x61_3, rfl, HA, HK3, BK295, HB⟩ := hrel
        cases gk with
        | zero => exact absurd HA.out (by simp [impl_PatternOk.l1])
        | succ k3 =>
         have H := HA.out
         clear HA
         simp only [impl_PatternOk.l1] at H
         replace H := iudd_ H; rcases H with ⟨c34b0, H⟩ | ⟨c34b0, H⟩
         · obtain rfl := Option.some.inj H
           go_wp2
           go_ret
           exact ⟨rfe_, bl_⟩
         replace H := ind_ H; obtain ⟨c35b0, H⟩ := H
         replace H := ind_ H; obtain ⟨c36b0, H⟩ := H
         replace H := Option.bind_eq_some_iff.mp H
         obtain ⟨t300, A370, H⟩ := H; try dsimp -simprocs only at H
         have A37 := Aside0.mk A370
         clear A370
         replace H := iub_ H; rcases H with ⟨rfl, H⟩ | ⟨rfl, H⟩
         · obtain rfl := Option.some.inj H
           have p299 : 0 ≤ (x61_3 : Int) := od_
           have q299 : x61_3 < (l0_1.length : Int) := od_
           obtain ⟨ad299, e299, hx299_0⟩ := Kd.at_int HR0_1.out x61_3 p299 q299
           cases e299
           replace hx299_0 := hc_ HB hx299_0
           replace p299 := eq_true p299; replace q299 := eq_true q299
           go_wp2_with (first | ((with_reducible refine gate_callee (f := 23) rfl ?_); refine gl_ 66 Tryd.func23 #[.int .i64 (rd l0_1 x61_3), .int .i64 0, .int .i64 9] ?_; (with_reducible refine (impl_within.calls (rd l0_1 x61_3) 0 9 false _ A37.out).mono ?_); rintro e w' ⟨rfl, ⟨nd, rfl⟩⟩; refine ⟨_, rfl, ?_⟩))
           go_ret
           exact ⟨rfe_, bl_⟩
         have H' := Aside0.mk H; clear H
         have p299 : 0 ≤ (x61_3 : Int) := od_
         have q299 : x61_3 < (l0_1.length : Int) := od_
         obtain ⟨ad299, e299, hx299_0⟩ := Kd.at_int HR0_1.out x61_3 p299 q299
         cases e299
         replace hx299_0 := hc_ HB hx299_0
         replace p299 := eq_true p299; replace q299 := eq_true q299
         go_wp2_with (first | ((with_reducible refine gate_callee (f := 23) rfl ?_); refine gl_ 66 Tryd.func23 #[.int .i64 (rd l0_1 x61_3), .int .i64 0, .int .i64 9] ?_; (with_reducible refine (impl_within.calls (rd l0_1 x61_3) 0 9 true _ A37.out).mono ?_); rintro e w' ⟨rfl, ⟨nd, rfl⟩⟩; refine ⟨_, rfl, ?_⟩))
         go_roundg k3
         case measure => have := HJ1.out; have := HK2.out; have := HK3.out; omega
         case rel => exact ⟨(wrap64 (x61_3 + 1)), rf_, H', ⟨by have := HJ1.out; have := HK2.out; have := HK3.out; omega⟩, ⟨by (with_reducible repeat (first | refine blk_drewN ?_ _ | refine blk_drew ?_ | refine blk_alloc ?_ _)); exact BK295.out⟩, ⟨bl_⟩⟩
     replace H := ind_ H; obtain ⟨c11b0, H⟩ := H
     replace H := ind_ H; obtain ⟨c12b0, H⟩ := H
     replace H := iucc_ H; rcases H with ⟨c14, H⟩ | ⟨c14, H⟩
     · have c14b0 : ((bt a0_0 x25_2) == 46) = false := beq_eq_false_iff_ne.mpr c14
       have c14b1 : ((bt a0_0 x25_2) != 46) = true := bne_iff_ne.mpr c14
       have c26b0 := eq_true (od_ : 0 ≤ x25_2)
       replace H := inc_ H; obtain ⟨c27, H⟩ := H
       have c27b0 := eq_true c27
       have c27b1 : decide (x25_2 ≤ (wrap64 (x25_2 + 1))) = true := decide_eq_true c27
       replace H := inc_ H; obtain ⟨c28, H⟩ := H
       have c28b0 := eq_true c28
       have c28b1 : decide ((wrap64 (x25_2 + 1)) ≤ (a0_0.size : Int)) = true := decide_eq_true c28
       replace H := Option.bind_eq_some_iff.mp H
       obtain ⟨t298, A290, H⟩ := H; try dsimp -simprocs only at H
       have A29 := Aside0.mk A290
       clear A290
       replace H := iub_ H; rcases H with ⟨rfl, H⟩ | ⟨rfl, H⟩
       · obtain rfl := Option.some.inj H
         have hcz32_0 := bc0_ BK295
         have hcz32_1 := bc1_ BK295
         have hfz32_0 := blk_frozen BK295.out 0
         have hfz32_1 := blk_frozen BK295.out 1
         have p13 : 0 ≤ (x25_2 : Int) := od_
         have q13 : x25_2 < (a0_0.size : Int) := od_
         have hx13 := bt_at a0_0 x25_2
         replace p13 := eq_true p13; replace q13 := eq_true q13
         go_wp2_with (first | (go_at_call 40; (with_reducible refine (impl_lower.calls k2 (a0_0.extract (x25_2 : Int).toNat ((wrap64 (x25_2 + 1)) : Int).toNat) false _ A29.out).mono ?_); rintro e w' ⟨rfl, ⟨nd, rfl⟩⟩))
         go_ret
         exact ⟨rfe_, bl_⟩
       have H' := Aside0.mk H; clear H
       have hcz31_0 := bc0_ BK295
       have hcz31_1 := bc1_ BK295
       have hfz31_0 := blk_frozen BK295.out 0
       have hfz31_1 := blk_frozen BK295.out 1
       have p13 : 0 ≤ (x25_2 : Int) := od_
       have q13 : x25_2 < (a0_0.size : Int) := od_
       have hx13 := bt_at a0_0 x25_2
       replace p13 := eq_true p13; replace q13 := eq_true q13
       go_wp2_with (first | (go_at_call 40; (with_reducible refine (impl_lower.calls k2 (a0_0.extract (x25_2 : Int).toNat ((wrap64 (x25_2 + 1)) : Int).toNat) true _ A29.out).mono ?_); rintro e w' ⟨rfl, ⟨nd, rfl⟩⟩))
       go_roundg k2
       case measure => have := HJ1.out; have := HK2.out; omega
       case rel => exact ⟨(wrap64 (x25_2 + 1)), rf_, H', ⟨by have := HJ1.out; have := HK2.out; omega⟩, ⟨by (with_reducible repeat (first | refine blk_drewN ?_ _ | refine blk_drew ?_ | refine blk_alloc ?_ _)); exact BK295.out⟩, ⟨bl_⟩⟩
     have c14b0 : ((bt a0_0 x25_2) == 46) = true := beq_iff_eq.mpr c14
     have c14b1 : ((bt a0_0 x25_2) != 46) = false := bne_eq_false_iff_eq.mpr c14
     clear c14
     replace H := itcc_ H; rcases H with ⟨c15, H⟩ | ⟨c15, H⟩
     · have c15b0 : (x25_2 == 0) = true := beq_iff_eq.mpr c15
       have c15b1 : (x25_2 != 0) = false := bne_eq_false_iff_eq.mpr c15
       clear c15
       have H' := Aside0.mk H; clear H
       have hcz16_0 := bc0_ BK295
       have hcz16_1 := bc1_ BK295
       have hfz16_0 := blk_frozen BK295.out 0
       have hfz16_1 := blk_frozen BK295.out 1
       have p13 : 0 ≤ (x25_2 : Int) := od_
       have q13 : x25_2 < (a0_0.size : Int) := od_
       have hx13 := bt_at a0_0 x25_2
       replace p13 := eq_true p13; replace q13 := eq_true q13
       go_wp2
       go_roundg k2
       case measure => have := HJ1.out; have := HK2.out; omega
       case rel => exact ⟨(wrap64 (x25_2 + 1)), rf_, H', ⟨by have := HJ1.out; have := HK2.out; omega⟩, ⟨by (with_reducible repeat (first | refine blk_drewN ?_ _ | refine blk_drew ?_ | refine blk_alloc ?_ _)); exact BK295.out⟩, ⟨bl_⟩⟩
     have c15b0 : (x25_2 == 0) = false := beq_eq_false_iff_ne.mpr c15
     have c15b1 : (x25_2 != 0) = true := bne_iff_ne.mpr c15
     replace H := itcc_ H; rcases H with ⟨c17, H⟩ | ⟨c17, H⟩
     · have c17b0 : (x25_2 == (wrap64 ((a0_0.size : Int) - 1))) = true := beq_iff_eq.mpr c17
       have c17b1 : (x25_2 != (wrap64 ((a0_0.size : Int) - 1))) = false := bne_eq_false_iff_eq.mpr c17
       clear c17
       have H' := Aside0.mk H; clear H
       have hcz18_0 := bc0_ BK295
       have hcz18_1 := bc1_ BK295
       have hfz18_0 := blk_frozen BK295.out 0
       have hfz18_1 := blk_frozen BK295.out 1
       have p13 : 0 ≤ (x25_2 : Int) := od_
       have q13 : x25_2 < (a0_0.size : Int) := od_
       have hx13 := bt_at a0_0 x25_2
       replace p13 := eq_true p13; replace q13 := eq_true q13
       go_wp2
       go_roundg k2
       case measure => have := HJ1.out; have := HK2.out; omega
       case rel => exact ⟨(wrap64 (x25_2 + 1)), rf_, H', ⟨by have := HJ1.out; have := HK2.out; omega⟩, ⟨by (with_reducible repeat (first | refine blk_drewN ?_ _ | refine blk_drew ?_ | refine blk_alloc ?_ _)); exact BK295.out⟩, ⟨bl_⟩⟩
     have c17b0 : (x25_2 == (wrap64 ((a0_0.size : Int) - 1))) = false := beq_eq_false_iff_ne.mpr c17
     have c17b1 : (x25_2 != (wrap64 ((a0_0.size : Int) - 1))) = true := bne_iff_ne.mpr c17
     have c19b0 := eq_true (od_ : 0 ≤ x25_2)
     replace H := inc_ H; obtain ⟨c20, H⟩ := H
     have c20b0 := eq_true c20
     have c20b1 : decide (x25_2 ≤ (wrap64 (x25_2 + 1))) = true := decide_eq_true c20
     replace H := inc_ H; obtain ⟨c21, H⟩ := H
     have c21b0 := eq_true c21
     have c21b1 : decide ((wrap64 (x25_2 + 1)) ≤ (a0_0.size : Int)) = true := decide_eq_true c21
     replace H := Option.bind_eq_some_iff.mp H
     obtain ⟨t297, A220, H⟩ := H; try dsimp -simprocs only at H
     have A22 := Aside0.mk A220
     clear A220
     replace H := iub_ H; rcases H with ⟨rfl, H⟩ | ⟨rfl, H⟩
     · obtain rfl := Option.some.inj H
       have hcz25_0 := bc0_ BK295
       have hcz25_1 := bc1_ BK295
       have hfz25_0 := blk_frozen BK295.out 0
       have hfz25_1 := blk_frozen BK295.out 1
       have p13 : 0 ≤ (x25_2 : Int) := od_
       have q13 : x25_2 < (a0_0.size : Int) := od_
       have hx13 := bt_at a0_0 x25_2
       replace p13 := eq_true p13; replace q13 := eq_true q13
       go_wp2_with (first | (go_at_call 40; (with_reducible refine (impl_lower.calls k2 (a0_0.extract (x25_2 : Int).toNat ((wrap64 (x25_2 + 1)) : Int).toNat) false _ A22.out).mono ?_); rintro e w' ⟨rfl, ⟨nd, rfl⟩⟩))
       go_ret
       exact ⟨rfe_, bl_⟩
     have H' := Aside0.mk H; clear H
     have hcz24_0 := bc0_ BK295
     have hcz24_1 := bc1_ BK295
     have hfz24_0 := blk_frozen BK295.out 0
     have hfz24_1 := blk_frozen BK295.out 1
     have p13 : 0 ≤ (x25_2 : Int) := od_
     have q13 : x25_2 < (a0_0.size : Int) := od_
     have hx13 := bt_at a0_0 x25_2
     replace p13 := eq_true p13; replace q13 := eq_true q13
     go_wp2_with (first | (go_at_call 40; (with_reducible refine (impl_lower.calls k2 (a0_0.extract (x25_2 : Int).toNat ((wrap64 (x25_2 + 1)) : Int).toNat) true _ A22.out).mono ?_); rintro e w' ⟨rfl, ⟨nd, rfl⟩⟩))
     go_roundg k2
     case measure => have := HJ1.out; have := HK2.out; omega
     case rel => exact ⟨(wrap64 (x25_2 + 1)), rf_, H', ⟨by have := HJ1.out; have := HK2.out; omega⟩, ⟨by (with_reducible repeat (first | refine blk_drewN ?_ _ | refine blk_drew ?_ | refine blk_alloc ?_ _)); exact BK295.out⟩, ⟨bl_⟩⟩

/-! ### impl_patternsOk: function 20 -/
def impl_patternsOk.l0 : Nat → List (S42) → List (S42) → Int → Int → Option (Bool)
 | 0, _, _, _, _ => none
 | k + 1, x0, x5, x6, x7 => if x7 < x6 then (if 0 ≤ x7 then (if x7 < (x5.length : Int) then ((impl_PatternOk.f k ((rd_T42 x5 x7).f0) ((rd_T42 x5 x7).f1)).bind fun t303 => (if t303 = true then (impl_patternsOk.l0 k x0 x5 x6 (wrap64 (x7 + 1))) else (some false))) else (none)) else (none)) else (some (decide ((x0.length : Int) ≤ 20)))
def impl_patternsOk.f (k : Nat) (l0 : List (S42)) : Option (Bool) := impl_patternsOk.l0 k l0 l0 (l0.length : Int) 0
theorem impl_patternsOk.mono_l : ∀ k, (∀ y0 y1 y2 y3, LeO (impl_patternsOk.l0 k y0 y1 y2 y3) (impl_patternsOk.l0 (k + 1) y0 y1 y2 y3))
 | 0 => fun _ _ _ _ r h => by simp [impl_patternsOk.l0] at h
 | k + 1 => by
  have ih0 := impl_patternsOk.mono_l k
  · intro y0 y1 y2 y3
    unfold impl_patternsOk.l0
    have m0 := @impl_PatternOk.mono
    exact mn_
theorem impl_patternsOk.mono : ∀ a0 k, LeO (impl_patternsOk.f k a0) (impl_patternsOk.f (k + 1) a0) := by
 intro a0 k
 have ih0 := impl_patternsOk.mono_l k
 unfold impl_patternsOk.f
 have m0 := @impl_PatternOk.mono
 exact mn_
theorem impl_patternsOk.calls (k : Nat) (A0 : Option Addr) (c0 : Nat) (l0 : List (S42)) (r : Bool) (w : World) (hr0 : Kd.C k42 w A0 l0.length l0) (hc0 : l0.length ≤ c0) (h : impl_patternsOk.f k l0 = some r) :
 Calls Tryd.prog 20 #[.slice A0 l0.length c0] w fun e w' => e = .returned (.bool r) ∧ Below w.heap.size w w' := by
 have hu42 := Tryd.underlying42
 have HR0 := Aside0.mk hr0
 have HC0 := Aside0.mk hc0
 clear hr0 hc0
 have HB := Aside0.mk (Below.refl w.heap.size w)
 unfold impl_patternsOk.f at h; have H := h; clear h
 have H' := Aside0.mk H; clear H
 go_enter Tryd.func20, Tryd.ntmps20
 go_wp2
 go_loopg [7] k (fun kq v7 w' => ∃ (x7_1 : Int), v7 = .int .i64 x7_1 ∧ Aside0 (impl_patternsOk.l0 kq l0 l0 (l0.length : Int) x7_1 = some r) ∧ Aside0 (kq ≤ k) ∧ Aside0 (Below w.heap.size w w'))
 case atStart => exact ⟨(0), rf_, H', ⟨Nat.le_refl _⟩, ⟨bl_⟩⟩
 case round =>
  clear H'
  obtain ⟨x7_1, rfl, HA, HK1, HB⟩ := hrel
  cases gk with
  | zero => exact absurd HA.out (by simp [impl_patternsOk.l0])
  | succ k1 =>
   have H := HA.out
   clear HA
   simp only [impl_patternsOk.l0] at H
   replace H := iudd_ H; rcases H with ⟨c2b0, H⟩ | ⟨c2b0, H⟩
   · obtain rfl := Option.some.inj H
     go_wp2
     go_ret
     exact ⟨rfe_, bl_⟩
   replace H := ind_ H; obtain ⟨c3b0, H⟩ := H
   replace H := ind_ H; obtain ⟨c4b0, H⟩ := H
   replace H := Option.bind_eq_some_iff.mp H
   obtain ⟨t303, A50, H⟩ := H; try dsimp -simprocs only at H
   have A5 := Aside0.mk A50
   clear A50
   replace H := iub_ H; rcases H with ⟨rfl, H⟩ | ⟨rfl, H⟩
   · obtain rfl := Option.some.inj H
     have p301 : 0 ≤ (x7_1 : Int) := od_
     have q301 : x7_1 < (l0.length : Int) := od_
     obtain ⟨ad301, A301_1, c301_1, e301, hx301_0, hx301_1, hl301_1, hi301_1⟩ := at_T42 HR0.out x7_1 p301 q301
     cases e301
     replace hx301_0 := hc_ HB hx301_0
     replace hx301_1 := hc_ HB hx301_1
     have HR301_1 := Aside0.mk hi301_1
     have HC301_1 := Aside0.mk hl301_1
     clear hi301_1 hl301_1
     replace p301 := eq_true p301; replace q301 := eq_true q301
     go_wp2_with (first | ((with_reducible refine gate_dst (N := 4) rfl ?_); refine be_ 4 42 #[.string (⟨#[]⟩ : ByteArray), .slice none 0 0] ?_; intro gb302 hg w10 hbox hb; have BK302 := Aside0.mk (hbox); have GW302 := Aside0.mk ((gs_ hg : w.heap.size ≤ gb302)); have GE302 := Aside0.mk ((gs_ hg : w.heap.size ≤ gb302)); replace HB := Aside0.mk (below_step (bl_) hb); clear hb hbox hg; have hcz11_0 := bc0_ BK302; have hcz11_1 := bc1_ BK302; have hfz11_0 := blk_frozen BK302.out 0; have hfz11_1 := blk_frozen BK302.out 1) | ((with_reducible refine gate_callee (f := 39) rfl ?_); refine gl_ 12 Tryd.func39 #[.agg #[.string ((rd_T42 l0 x7_1).f0), .slice A301_1 ((rd_T42 l0 x7_1).f1).length c301_1]] ?_; (with_reducible refine (impl_PatternOk.calls k1 ((rd_T42 l0 x7_1).f0) _ _ ((rd_T42 l0 x7_1).f1) false _ ?side1 ?side2 A5.out).mono ?_); (case side1 => exact Kd.C_below HR301_1.out (bl_)); (case side2 => exact HC301_1.out); rintro e w12 ⟨rfl, hb⟩; refine ⟨_, rfl, ?_⟩; replace BK302 := Aside0.mk (blk_below (g := gb302) (o := .cells #[.string ((rd_T42 l0 x7_1).f0), .slice A301_1 ((rd_T42 l0 x7_1).f1).length c301_1] 42 (0, 0)) bq_ hb); replace HB := Aside0.mk (below_step (bl_) hb); (try clear hb); (try clear hb2); (try clear hk); (try clear hi)))
     go_ret
     exact ⟨rfe_, bl_⟩
   have H' := Aside0.mk H; clear H
   have p301 : 0 ≤ (x7_1 : Int) := od_
   have q301 : x7_1 < (l0.length : Int) := od_
   obtain ⟨ad301, A301_1, c301_1, e301, hx301_0, hx301_1, hl301_1, hi301_1⟩ := at_T42 HR0.out x7_1 p301 q301
   cases e301
   replace hx301_0 := hc_ HB hx301_0
   replace hx301_1 := hc_ HB hx301_1
   have HR301_1 := Aside0.mk hi301_1
   have HC301_1 := Aside0.mk hl301_1
   clear hi301_1 hl301_1
   replace p301 := eq_true p301; replace q301 := eq_true q301
   go_wp2_with (first | ((with_reducible refine gate_dst (N := 4) rfl ?_); refine be_ 4 42 #[.string (⟨#[]⟩ : ByteArray), .slice none 0 0] ?_; intro gb302 hg w7 hbox hb; have BK302 := Aside0.mk (hbox); have GW302 := Aside0.mk ((gs_ hg : w.heap.size ≤ gb302)); have GE302 := Aside0.mk ((gs_ hg : w.heap.size ≤ gb302)); replace HB := Aside0.mk (below_step (bl_) hb); clear hb hbox hg; have hcz8_0 := bc0_ BK302; have hcz8_1 := bc1_ BK302; have hfz8_0 := blk_frozen BK302.out 0; have hfz8_1 := blk_frozen BK302.out 1) | ((with_reducible refine gate_callee (f := 39) rfl ?_); refine gl_ 12 Tryd.func39 #[.agg #[.string ((rd_T42 l0 x7_1).f0), .slice A301_1 ((rd_T42 l0 x7_1).f1).length c301_1]] ?_; (with_reducible refine (impl_PatternOk.calls k1 ((rd_T42 l0 x7_1).f0) _ _ ((rd_T42 l0 x7_1).f1) true _ ?side1 ?side2 A5.out).mono ?_); (case side1 => exact Kd.C_below HR301_1.out (bl_)); (case side2 => exact HC301_1.out); rintro e w9 ⟨rfl, hb⟩; refine ⟨_, rfl, ?_⟩; replace BK302 := Aside0.mk (blk_below (g := gb302) (o := .cells #[.string ((rd_T42 l0 x7_1).f0), .slice A301_1 ((rd_T42 l0 x7_1).f1).length c301_1] 42 (0, 0)) bq_ hb); replace HB := Aside0.mk (below_step (bl_) hb); (try clear hb); (try clear hb2); (try clear hk); (try clear hi)))
   go_roundg k1
   case measure => have := HK1.out; omega
   case rel => exact ⟨(wrap64 (x7_1 + 1)), rf_, H', ⟨by have := HK1.out; omega⟩, ⟨bl_⟩⟩

/-! ### impl_WordOk: function 21 -/
def impl_WordOk.f (k : Nat) (a0 : ByteArray) : Option (Bool) := (impl_within.f (a0.size : Int) 1 12).bind fun t304 => (if t304 = true then ((impl_lower.f k a0).bind fun t305 => (some t305)) else (some false))
theorem impl_WordOk.mono : ∀ a0 k, LeO (impl_WordOk.f k a0) (impl_WordOk.f (k + 1) a0) := by
 intro a0 k
 unfold impl_WordOk.f
 have m0 := @impl_lower.mono
 exact mn_
theorem impl_WordOk.calls (k : Nat) (a0 : ByteArray) (r : Bool) (w : World) (h : impl_WordOk.f k a0 = some r) :
 Calls Tryd.prog 21 #[.string a0] w fun e w' => e = .returned (.bool r) ∧ Drawn0 w w' := by
 unfold impl_WordOk.f at h; have H := h; clear h
 replace H := Option.bind_eq_some_iff.mp H
 obtain ⟨t304, A20, H⟩ := H; try dsimp -simprocs only at H
 have A2 := Aside0.mk A20
 clear A20
 replace H := iub_ H; rcases H with ⟨rfl, H⟩ | ⟨rfl, H⟩
 · obtain rfl := Option.some.inj H
   go_enter Tryd.func21, Tryd.ntmps21
   go_wp2_with (first | ((with_reducible refine gate_callee (f := 23) rfl ?_); refine gl_ 5 Tryd.func23 #[.int .i64 (a0.size : Int), .int .i64 1, .int .i64 12] ?_; (with_reducible refine (impl_within.calls (a0.size : Int) 1 12 false _ A2.out).mono ?_); rintro e w' ⟨rfl, ⟨nd, rfl⟩⟩; refine ⟨_, rfl, ?_⟩))
   go_ret
   exact ⟨rf_, dr_⟩
 replace H := Option.bind_eq_some_iff.mp H
 obtain ⟨t305, A40, H⟩ := H; try dsimp -simprocs only at H
 have A4 := Aside0.mk A40
 clear A40
 obtain rfl := Option.some.inj H
 go_enter Tryd.func21, Tryd.ntmps21
 go_wp2_with (first | ((with_reducible refine gate_callee (f := 23) rfl ?_); refine gl_ 5 Tryd.func23 #[.int .i64 (a0.size : Int), .int .i64 1, .int .i64 12] ?_; (with_reducible refine (impl_within.calls (a0.size : Int) 1 12 true _ A2.out).mono ?_); rintro e w' ⟨rfl, ⟨nd, rfl⟩⟩; refine ⟨_, rfl, ?_⟩) | (go_at_call 40; (with_reducible refine (impl_lower.calls k a0 t305 _ A4.out).mono ?_); rintro e w' ⟨rfl, ⟨nd, rfl⟩⟩))
 go_ret
 exact ⟨rf_, dr_⟩

/-! ### stringslite_HasPrefix: function 41 -/
def stringslite_HasPrefix.f (a0 : ByteArray) (a1 : ByteArray) : Option (Bool) := if (a0.size : Int) ≥ (a1.size : Int) then (if 0 ≤ (a1.size : Int) then (if (a1.size : Int) ≤ (a0.size : Int) then (some ((a0.extract 0 ((a1.size : Int) : Int).toNat).toList == a1.toList)) else (none)) else (none)) else (some false)
theorem stringslite_HasPrefix.calls (a0 : ByteArray) (a1 : ByteArray) (r : Bool) (w : World) (h : stringslite_HasPrefix.f a0 a1 = some r) :
 Calls Tryd.prog 41 #[.string a0, .string a1] w fun e w' => e = .returned (.bool r) ∧ Drawn0 w w' := by
 unfold stringslite_HasPrefix.f at h; have H := h; clear h
 replace H := iucc_ H; rcases H with ⟨c3, H⟩ | ⟨c3, H⟩
 · have c3b0 : decide ((a1.size : Int) ≤ (a0.size : Int)) = false := decide_eq_false c3
   have c3b1 : decide (a1.size ≤ a0.size) = false := decide_eq_false (fun h => c3 (Int.ofNat_le.mpr h))
   clear c3
   obtain rfl := Option.some.inj H
   go_enter Tryd.func41, Tryd.ntmps41
   go_wp2
   go_ret
   exact ⟨rf_, dr_⟩
 have c3b0 : decide ((a1.size : Int) ≤ (a0.size : Int)) = true := decide_eq_true c3
 have c3b1 : decide (a1.size ≤ a0.size) = true := decide_eq_true (Int.ofNat_le.mp c3)
 clear c3
 replace H := inc_ H; obtain ⟨c4, H⟩ := H
 have c4b0 := eq_true c4
 have c4b1 : decide (0 ≤ (a1.size : Int)) = true := decide_eq_true c4
 clear c4
 replace H := inc_ H; obtain ⟨c5, H⟩ := H
 have c5b0 := eq_true c5
 have c5b1 : decide ((a1.size : Int) ≤ (a0.size : Int)) = true := decide_eq_true c5
 clear c5
 obtain rfl := Option.some.inj H
 go_enter Tryd.func41, Tryd.ntmps41
 go_wp2
 go_ret
 exact ⟨rf_, dr_⟩

/-! ### strings_HasPrefix: function 22 -/
def strings_HasPrefix.f (a0 : ByteArray) (a1 : ByteArray) : Option (Bool) := (stringslite_HasPrefix.f a0 a1).bind fun t306 => (some t306)
theorem strings_HasPrefix.calls (a0 : ByteArray) (a1 : ByteArray) (r : Bool) (w : World) (h : strings_HasPrefix.f a0 a1 = some r) :
 Calls Tryd.prog 22 #[.string a0, .string a1] w fun e w' => e = .returned (.bool r) ∧ Drawn0 w w' := by
 unfold strings_HasPrefix.f at h; have H := h; clear h
 replace H := Option.bind_eq_some_iff.mp H
 obtain ⟨t306, A30, H⟩ := H; try dsimp -simprocs only at H
 have A3 := Aside0.mk A30
 clear A30
 obtain rfl := Option.some.inj H
 go_enter Tryd.func22, Tryd.ntmps22
 go_wp2_with (first | ((with_reducible refine gate_callee (f := 41) rfl ?_); refine gl_ 7 Tryd.func41 #[.string a0, .string a1] ?_; (with_reducible refine (stringslite_HasPrefix.calls a0 a1 t306 _ A3.out).mono ?_); rintro e w' ⟨rfl, ⟨nd, rfl⟩⟩; refine ⟨_, rfl, ?_⟩))
 go_ret
 exact ⟨rf_, dr_⟩

end Go.Proofs.YtlmbmfnimpjgmaaDoor.P
