-- Written by a program of this session (wip/gen/gen.py) out of Lean's print of the loaded program; Lean checks it.
import Derived.Test.YtlmbmfnimpjgmaaDoorP0
import Derived.Test.YtlmbmfnimpjgmaaDoorSq2
import Derived.Test.YtlmbmfnimpjgmaaDoorP2
namespace Go.Proofs.YtlmbmfnimpjgmaaDoor.P
open Go.RowKit Go.Proofs.YtlmbmfnimpjgmaaDoorW.PrintWords Go.Proofs.YtlmbmfnimpjgmaaDoorW.PrintLast Go.Proofs.YtlmbmfnimpjgmaaDoorW.PrintMore
attribute [local go_sem] max2_int min2_int max_two min_two max_three min_three max_four min_four IntKind.wrap_u8 IntKind.wrap_u32 w64_256 w64_u32
set_option maxHeartbeats 8000000
set_option maxRecDepth 100000
set_option linter.unusedVariables false
set_option linter.unusedSimpArgs false

/-! ### spec_l9Put: function 67 -/
def spec_l9Put.l0 : Nat → ByteArray → Int → ByteArray → List Int → Option (ByteArray)
 | 0, _, _, _, _ => none
 | k + 1, x3, x4, x147000, x147001 => if x4 < (x147001.length : Int) then (if 0 ≤ x4 then (if (rd x147001 x4) > 0 then ((spec_l1Dec.f k (rd x147001 x4)).bind fun t149 => (if x3.size + t149.size ≤ 9223372036854775807 then (if x4 < (x147000.size : Int) then (if x4 ≤ (wrap64 (x4 + 1)) then (if (wrap64 (x4 + 1)) ≤ (x147000.size : Int) then (if x3.size + t149.size + (((wrap64 (x4 + 1)) : Int).toNat - (x4 : Int).toNat) ≤ 9223372036854775807 then (spec_l9Put.l0 k ((x3 ++ t149) ++ (x147000.extract (x4 : Int).toNat ((wrap64 (x4 + 1)) : Int).toNat)) (wrap64 (x4 + 1)) x147000 x147001) else (none)) else (none)) else (none)) else (spec_l9Put.l0 k (x3 ++ t149) (wrap64 (x4 + 1)) x147000 x147001)) else (none))) else (if x4 < (x147000.size : Int) then (if x4 ≤ (wrap64 (x4 + 1)) then (if (wrap64 (x4 + 1)) ≤ (x147000.size : Int) then (if x3.size + (((wrap64 (x4 + 1)) : Int).toNat - (x4 : Int).toNat) ≤ 9223372036854775807 then (spec_l9Put.l0 k (x3 ++ (x147000.extract (x4 : Int).toNat ((wrap64 (x4 + 1)) : Int).toNat)) (wrap64 (x4 + 1)) x147000 x147001) else (none)) else (none)) else (none)) else (spec_l9Put.l0 k x3 (wrap64 (x4 + 1)) x147000 x147001))) else (none)) else (some x3)
def spec_l9Put.f (k : Nat) (a0_0 : ByteArray) (l0_1 : List Int) : Option (ByteArray) := spec_l9Put.l0 k (⟨#[]⟩ : ByteArray) 0 a0_0 l0_1
theorem spec_l9Put.mono_l : ∀ k, (∀ y0 y1 y2 y3, LeO (spec_l9Put.l0 k y0 y1 y2 y3) (spec_l9Put.l0 (k + 1) y0 y1 y2 y3))
 | 0 => fun _ _ _ _ r h => by simp [spec_l9Put.l0] at h
 | k + 1 => by
  have ih0 := spec_l9Put.mono_l k
  · intro y0 y1 y2 y3
    unfold spec_l9Put.l0
    have m0 := @spec_l1Dec.mono
    exact mn_
theorem spec_l9Put.mono : ∀ a0 a1 k, LeO (spec_l9Put.f k a0 a1) (spec_l9Put.f (k + 1) a0 a1) := by
 intro a0 a1 k
 have ih0 := spec_l9Put.mono_l k
 unfold spec_l9Put.f
 have m0 := @spec_l1Dec.mono
 exact mn_
theorem spec_l9Put.calls (k : Nat) (a0_0 : ByteArray) (A0_1 : Option Addr) (c0_1 : Nat) (l0_1 : List Int) (r : ByteArray) (w : World) (hr0_1 : Kd.C (Kd.int .i64) w A0_1 l0_1.length l0_1) (hc0_1 : l0_1.length ≤ c0_1) (h : spec_l9Put.f k a0_0 l0_1 = some r) :
 Calls Tryd.prog 67 #[.agg #[.string a0_0, .slice A0_1 l0_1.length c0_1]] w fun e w' => e = .returned (.string r) ∧ Below w.heap.size w w' := by
 have hu42 := Tryd.underlying42
 have HR0_1 := Aside0.mk hr0_1
 have HC0_1 := Aside0.mk hc0_1
 clear hr0_1 hc0_1
 have HB := Aside0.mk (Below.refl w.heap.size w)
 unfold spec_l9Put.f at h; have H := h; clear h
 have H' := Aside0.mk H; clear H
 go_enter Tryd.func67, Tryd.ntmps67
 go_wp2_with (first | ((with_reducible refine gate_dst (N := 1) rfl ?_); refine be_ 1 42 #[.string a0_0, .slice A0_1 l0_1.length c0_1] ?_; intro gb146 hg w2 hbox hb; have BK146 := Aside0.mk (hbox); have GW146 := Aside0.mk ((gs_ hg : w.heap.size ≤ gb146)); have GE146 := Aside0.mk ((gs_ hg : w.heap.size ≤ gb146)); replace HB := Aside0.mk (below_step (bl_) hb); clear hb hbox hg))
 go_loopg [3, 4] k (fun kq v3 v4 w' => ∃ (x3_1 : ByteArray) (x4_1 : Int), v3 = .string x3_1 ∧ v4 = .int .i64 x4_1 ∧ Aside0 (spec_l9Put.l0 kq x3_1 x4_1 a0_0 l0_1 = some r) ∧ Aside0 (kq ≤ k) ∧ Aside0 (w'.heap[gb146]? = some (.cells #[.string a0_0, (.slice A0_1 l0_1.length c0_1)] 42 (0, 0))) ∧ Aside0 (Below w.heap.size w w'))
 case atStart => exact ⟨((⟨#[]⟩ : ByteArray)), (0), rf_, rf_, H', ⟨Nat.le_refl _⟩, ⟨by (with_reducible repeat (first | refine blk_drewN ?_ _ | refine blk_drew ?_ | refine blk_alloc ?_ _)); exact BK146.out⟩, ⟨bl_⟩⟩
 case round =>
  clear H'
  try clear p2
  obtain ⟨x3_1, x4_1, rfl, rfl, HA, HK1, BK146, HB⟩ := hrel
  cases gk with
  | zero => exact absurd HA.out (by simp [spec_l9Put.l0])
  | succ k1 =>
   have H := HA.out
   clear HA
   simp only [spec_l9Put.l0] at H
   replace H := iudd_ H; rcases H with ⟨c3b0, H⟩ | ⟨c3b0, H⟩
   · obtain rfl := Option.some.inj H
     have hcz26_0 := bc0_ BK146
     have hcz26_1 := bc1_ BK146
     have hfz26_0 := blk_frozen BK146.out 0
     have hfz26_1 := blk_frozen BK146.out 1
     go_wp2
     go_ret
     exact ⟨rfe_, bl_⟩
   replace H := ind_ H; obtain ⟨c4b0, H⟩ := H
   replace H := iucc_ H; rcases H with ⟨c5, H⟩ | ⟨c5, H⟩
   · have c5b0 : decide (0 < (rd l0_1 x4_1)) = false := decide_eq_false c5
     clear c5
     replace H := iudd_ H; rcases H with ⟨c19b0, H⟩ | ⟨c19b0, H⟩
     · have H' := Aside0.mk H
       clear H
       have hcz25_0 := bc0_ BK146
       have hcz25_1 := bc1_ BK146
       have hfz25_0 := blk_frozen BK146.out 0
       have hfz25_1 := blk_frozen BK146.out 1
       have p147 : 0 ≤ (x4_1 : Int) := od_
       have q147 : x4_1 < (l0_1.length : Int) := od_
       obtain ⟨ad147, e147, hx147_0⟩ := Kd.at_int HR0_1.out x4_1 p147 q147
       cases e147
       replace hx147_0 := hc_ HB hx147_0
       replace p147 := eq_true p147; replace q147 := eq_true q147
       go_wp2
       go_roundg k1
       case measure => have := HK1.out; omega
       case rel => exact ⟨(x3_1), (wrap64 (x4_1 + 1)), rf_, rf_, H', ⟨by have := HK1.out; omega⟩, ⟨by (with_reducible repeat (first | refine blk_drewN ?_ _ | refine blk_drew ?_ | refine blk_alloc ?_ _)); exact BK146.out⟩, ⟨bl_⟩⟩
     have c20b0 := eq_true (od_ : 0 ≤ x4_1)
     replace H := inc_ H; obtain ⟨c21, H⟩ := H
     have c21b0 := eq_true c21
     have c21b1 : decide (x4_1 ≤ (wrap64 (x4_1 + 1))) = true := decide_eq_true c21
     replace H := inc_ H; obtain ⟨c22, H⟩ := H
     have c22b0 := eq_true c22
     have c22b1 : decide ((wrap64 (x4_1 + 1)) ≤ (a0_0.size : Int)) = true := decide_eq_true c22
     replace H := inc_ H; obtain ⟨c23, H⟩ := H
     have c23b0 := eq_true c23
     have c23b1 : decide (x3_1.size + (((wrap64 (x4_1 + 1)) : Int).toNat - (x4_1 : Int).toNat) ≤ 9223372036854775807) = true := decide_eq_true c23
     try have c23b2 : (9223372036854775807 < x3_1.size + (((wrap64 (x4_1 + 1)) : Int).toNat - (x4_1 : Int).toNat)) = False := eq_false (Nat.not_lt.2 c23)
     have H' := Aside0.mk H; clear H
     have hcz24_0 := bc0_ BK146
     have hcz24_1 := bc1_ BK146
     have hfz24_0 := blk_frozen BK146.out 0
     have hfz24_1 := blk_frozen BK146.out 1
     have p147 : 0 ≤ (x4_1 : Int) := od_
     have q147 : x4_1 < (l0_1.length : Int) := od_
     obtain ⟨ad147, e147, hx147_0⟩ := Kd.at_int HR0_1.out x4_1 p147 q147
     cases e147
     replace hx147_0 := hc_ HB hx147_0
     replace p147 := eq_true p147; replace q147 := eq_true q147
     go_wp2
     go_roundg k1
     case measure => have := HK1.out; omega
     case rel => exact ⟨(x3_1 ++ (a0_0.extract (x4_1 : Int).toNat ((wrap64 (x4_1 + 1)) : Int).toNat)), (wrap64 (x4_1 + 1)), rf_, rf_, H', ⟨by have := HK1.out; omega⟩, ⟨by (with_reducible repeat (first | refine blk_drewN ?_ _ | refine blk_drew ?_ | refine blk_alloc ?_ _)); exact BK146.out⟩, ⟨bl_⟩⟩
   have c5b0 : decide (0 < (rd l0_1 x4_1)) = true := decide_eq_true c5
   clear c5
   replace H := Option.bind_eq_some_iff.mp H
   obtain ⟨t149, A60, H⟩ := H; try dsimp -simprocs only at H
   have A6 := Aside0.mk A60
   clear A60
   replace H := inc_ H; obtain ⟨c7, H⟩ := H
   have c7b0 := eq_true c7
   have c7b1 : decide (x3_1.size + t149.size ≤ 9223372036854775807) = true := decide_eq_true c7
   try have c7b2 : (9223372036854775807 < x3_1.size + t149.size) = False := eq_false (Nat.not_lt.2 c7)
   replace H := iudd_ H; rcases H with ⟨c8b0, H⟩ | ⟨c8b0, H⟩
   · have H' := Aside0.mk H
     clear H
     have hcz16_0 := bc0_ BK146
     have hcz16_1 := bc1_ BK146
     have hfz16_0 := blk_frozen BK146.out 0
     have hfz16_1 := blk_frozen BK146.out 1
     have p147 : 0 ≤ (x4_1 : Int) := od_
     have q147 : x4_1 < (l0_1.length : Int) := od_
     obtain ⟨ad147, e147, hx147_0⟩ := Kd.at_int HR0_1.out x4_1 p147 q147
     cases e147
     replace hx147_0 := hc_ HB hx147_0
     replace p147 := eq_true p147; replace q147 := eq_true q147
     have p148 : 0 ≤ (x4_1 : Int) := od_
     have q148 : x4_1 < (l0_1.length : Int) := od_
     obtain ⟨ad148, e148, hx148_0⟩ := Kd.at_int HR0_1.out x4_1 p148 q148
     obtain rfl : ad147 = ad148 := (by injection e148)
     replace hx148_0 := hc_ HB hx148_0
     replace p148 := eq_true p148; replace q148 := eq_true q148
     go_wp2_with (first | ((with_reducible refine gate_callee (f := 74) rfl ?_); refine gl_ 24 Tryd.func74 #[.int .i64 (rd l0_1 x4_1)] ?_; (with_reducible refine (spec_l1Dec.calls k1 (rd l0_1 x4_1) t149 _ A6.out).mono ?_); rintro e w17 ⟨rfl, hb⟩; refine ⟨_, rfl, ?_⟩; replace BK146 := Aside0.mk (blk_below (bk_ BK146) hb); replace HB := Aside0.mk (below_step (bl_) hb); (try clear hb); (try clear hb2); (try clear hk); (try clear hi); have hcz18_0 := bc0_ BK146; have hcz18_1 := bc1_ BK146; have hfz18_0 := blk_frozen BK146.out 0; have hfz18_1 := blk_frozen BK146.out 1))
     go_roundg k1
     case measure => have := HK1.out; omega
     case rel => exact ⟨(x3_1 ++ t149), (wrap64 (x4_1 + 1)), rf_, rf_, H', ⟨by have := HK1.out; omega⟩, ⟨by (with_reducible repeat (first | refine blk_drewN ?_ _ | refine blk_drew ?_ | refine blk_alloc ?_ _)); exact BK146.out⟩, ⟨bl_⟩⟩
   have c9b0 := eq_true (od_ : 0 ≤ x4_1)
   replace H := inc_ H; obtain ⟨c10, H⟩ := H
   have c10b0 := eq_true c10
   have c10b1 : decide (x4_1 ≤ (wrap64 (x4_1 + 1))) = true := decide_eq_true c10
   replace H := inc_ H; obtain ⟨c11, H⟩ := H
   have c11b0 := eq_true c11
   have c11b1 : decide ((wrap64 (x4_1 + 1)) ≤ (a0_0.size : Int)) = true := decide_eq_true c11
   replace H := inc_ H; obtain ⟨c12, H⟩ := H
   have c12b0 := eq_true c12
   have c12b1 : decide (x3_1.size + t149.size + (((wrap64 (x4_1 + 1)) : Int).toNat - (x4_1 : Int).toNat) ≤ 9223372036854775807) = true := decide_eq_true c12
   try have c12b2 : (9223372036854775807 < x3_1.size + t149.size + (((wrap64 (x4_1 + 1)) : Int).toNat - (x4_1 : Int).toNat)) = False := eq_false (Nat.not_lt.2 c12)
   have H' := Aside0.mk H; clear H
   have hcz13_0 := bc0_ BK146
   have hcz13_1 := bc1_ BK146
   have hfz13_0 := blk_frozen BK146.out 0
   have hfz13_1 := blk_frozen BK146.out 1
   have p147 : 0 ≤ (x4_1 : Int) := od_
   have q147 : x4_1 < (l0_1.length : Int) := od_
   obtain ⟨ad147, e147, hx147_0⟩ := Kd.at_int HR0_1.out x4_1 p147 q147
   cases e147
   replace hx147_0 := hc_ HB hx147_0
   replace p147 := eq_true p147; replace q147 := eq_true q147
   have p148 : 0 ≤ (x4_1 : Int) := od_
   have q148 : x4_1 < (l0_1.length : Int) := od_
   obtain ⟨ad148, e148, hx148_0⟩ := Kd.at_int HR0_1.out x4_1 p148 q148
   obtain rfl : ad147 = ad148 := (by injection e148)
   replace hx148_0 := hc_ HB hx148_0
   replace p148 := eq_true p148; replace q148 := eq_true q148
   go_wp2_with (first | ((with_reducible refine gate_callee (f := 74) rfl ?_); refine gl_ 24 Tryd.func74 #[.int .i64 (rd l0_1 x4_1)] ?_; (with_reducible refine (spec_l1Dec.calls k1 (rd l0_1 x4_1) t149 _ A6.out).mono ?_); rintro e w14 ⟨rfl, hb⟩; refine ⟨_, rfl, ?_⟩; replace BK146 := Aside0.mk (blk_below (bk_ BK146) hb); replace HB := Aside0.mk (below_step (bl_) hb); (try clear hb); (try clear hb2); (try clear hk); (try clear hi); have hcz15_0 := bc0_ BK146; have hcz15_1 := bc1_ BK146; have hfz15_0 := blk_frozen BK146.out 0; have hfz15_1 := blk_frozen BK146.out 1))
   go_roundg k1
   case measure => have := HK1.out; omega
   case rel => exact ⟨((x3_1 ++ t149) ++ (a0_0.extract (x4_1 : Int).toNat ((wrap64 (x4_1 + 1)) : Int).toNat)), (wrap64 (x4_1 + 1)), rf_, rf_, H', ⟨by have := HK1.out; omega⟩, ⟨by (with_reducible repeat (first | refine blk_drewN ?_ _ | refine blk_drew ?_ | refine blk_alloc ?_ _)); exact BK146.out⟩, ⟨bl_⟩⟩

/-! ### spec_PatternGet: function 59 -/
def spec_PatternGet.l0 : Nat → ByteArray → Int → ByteArray → List Int → Option (ByteArray × List Int × Bool)
 | 0, _, _, _, _ => none
 | k + 1, x0, x5, x155000, x155001 => if x5 < (x0.size : Int) then (if 0 ≤ x5 then (if (bt x0 x5) ≥ 48 then (if (bt x0 x5) ≤ 57 then (if 0 ≤ (wrap64 ((x155001.length : Int) - 1)) then (if (wrap64 ((x155001.length : Int) - 1)) < (x155001.length : Int) then (spec_PatternGet.l0 k x0 (wrap64 (x5 + 1)) x155000 (x155001.set ((wrap64 ((x155001.length : Int) - 1)) : Int).toNat (((bt x0 x5) - 48) % 256))) else (none)) else (none)) else (if x5 ≤ (wrap64 (x5 + 1)) then (if (wrap64 (x5 + 1)) ≤ (x0.size : Int) then (if x155000.size + (((wrap64 (x5 + 1)) : Int).toNat - (x5 : Int).toNat) ≤ 9223372036854775807 then (if x155001.length < 17592186044416 then (spec_PatternGet.l0 k x0 (wrap64 (x5 + 1)) (x155000 ++ (x0.extract (x5 : Int).toNat ((wrap64 (x5 + 1)) : Int).toNat)) (x155001 ++ [0])) else (none)) else (none)) else (none)) else (none))) else (if x5 ≤ (wrap64 (x5 + 1)) then (if (wrap64 (x5 + 1)) ≤ (x0.size : Int) then (if x155000.size + (((wrap64 (x5 + 1)) : Int).toNat - (x5 : Int).toNat) ≤ 9223372036854775807 then (if x155001.length < 17592186044416 then (spec_PatternGet.l0 k x0 (wrap64 (x5 + 1)) (x155000 ++ (x0.extract (x5 : Int).toNat ((wrap64 (x5 + 1)) : Int).toNat)) (x155001 ++ [0])) else (none)) else (none)) else (none)) else (none))) else (none)) else ((spec_PatternOk.f k x155000 x155001).bind fun t162 => (if t162 = true then ((spec_l9Put.f k x155000 x155001).bind fun t163 => (if t163.toList = x0.toList then (some (x155000, x155001, true)) else (some ((⟨#[]⟩ : ByteArray), ([] : List Int), false)))) else (some ((⟨#[]⟩ : ByteArray), ([] : List Int), false))))
def spec_PatternGet.f (k : Nat) (a0 : ByteArray) : Option (ByteArray × List Int × Bool) := spec_PatternGet.l0 k a0 0 (⟨#[]⟩ : ByteArray) (([0] : List Int))
theorem spec_PatternGet.mono_l : ∀ k, (∀ y0 y1 y2 y3, LeO (spec_PatternGet.l0 k y0 y1 y2 y3) (spec_PatternGet.l0 (k + 1) y0 y1 y2 y3))
 | 0 => fun _ _ _ _ r h => by simp [spec_PatternGet.l0] at h
 | k + 1 => by
  have ih0 := spec_PatternGet.mono_l k
  · intro y0 y1 y2 y3
    unfold spec_PatternGet.l0
    have m0 := @spec_PatternOk.mono
    have m1 := @spec_l9Put.mono
    exact mn_
theorem spec_PatternGet.mono : ∀ a0 k, LeO (spec_PatternGet.f k a0) (spec_PatternGet.f (k + 1) a0) := by
 intro a0 k
 have ih0 := spec_PatternGet.mono_l k
 unfold spec_PatternGet.f
 have m0 := @spec_PatternOk.mono
 have m1 := @spec_l9Put.mono
 exact mn_
def spec_PatternGet.T6 : Bool × List (List Nat × List Nat) := (true, [([], []), ([0], [0]), ([], []), ([2], [2]), ([3], [3]), ([4], [4]), ([], []), ([], []), ([6, 7], [6, 7]), ([8], [8]), ([9], [9]), ([1, 5, 0, 1, 2, 3, 4, 5, 6, 7, 8, 9, 10], [1, 5]), ([11, 10, 0, 1, 2, 3, 4, 5, 6, 7, 8, 9, 10], [10, 11])])
def spec_PatternGet.B6 : List Nat := [0, 1, 0, 4, 12, 28, 0, 0, 192, 448, 960, 2047, 4095]
theorem spec_PatternGet.tab6 : rtab .any (opsOf Tryd.f59 6) = spec_PatternGet.T6 := by kernel_rfl
theorem spec_PatternGet.bits6 : waitsOk spec_PatternGet.T6.2 spec_PatternGet.B6 = true := by kernel_rfl
def spec_PatternGet.T7 : Bool × List (List Nat × List Nat) := (true, [([], []), ([0], [0]), ([], []), ([], []), ([], []), ([4], [4]), ([2, 3, 5], [2, 3, 5]), ([1, 6], [1, 6]), ([0, 1, 2, 3, 4, 5, 6, 7], []), ([8, 7, 0, 1, 2, 3, 4, 5, 6, 7], [7, 8])])
def spec_PatternGet.B7 : List Nat := [0, 1, 0, 0, 0, 16, 60, 127, 255, 511]
theorem spec_PatternGet.tab7 : rtab .any (opsOf Tryd.f59 7) = spec_PatternGet.T7 := by kernel_rfl
theorem spec_PatternGet.bits7 : waitsOk spec_PatternGet.T7.2 spec_PatternGet.B7 = true := by kernel_rfl
theorem spec_PatternGet.calls (k : Nat) (a0 : ByteArray) (r1 : ByteArray) (r2 : List Int) (r3 : Bool) (w : World) (h : spec_PatternGet.f k a0 = some (r1, r2, r3)) :
 Calls Tryd.prog 59 #[.string a0] w fun e w' => ∃ v1_ : Value, e = .returned (.tuple #[.agg #[.string r1, v1_], .bool r3]) ∧ Kd.R (Kd.int .i64) 3 w' w.heap.size (fun _ => True) v1_ r2 ∧ Below w.heap.size w w' := by
 have hu42 := Tryd.underlying42
 have HB := Aside0.mk (Below.refl w.heap.size w)
 unfold spec_PatternGet.f at h; have H := h; clear h
 obtain ⟨y151, hy_⟩ : ∃ y_ : List Int, y_ = (([0] : List Int)) := ⟨_, rfl⟩
 replace H : (spec_PatternGet.l0 k a0 0 (⟨#[]⟩ : ByteArray) y151) = some (r1, r2, r3) := ry_
 have Ny151 := Aside0.mk hy_; clear hy_
 have H' := Aside0.mk H; clear H
 go_enter Tryd.func59, Tryd.ntmps59
 go_wp2_with (first | ((with_reducible refine gate_dst (N := 2) rfl ?_); refine be_ 2 42 #[.string (⟨#[]⟩ : ByteArray), .slice none 0 0] ?_; intro gb150 hg w2 hbox hb; have BK150 := Aside0.mk (hbox); have GW150 := Aside0.mk ((gs_ hg : w.heap.size ≤ gb150)); have GE150 := Aside0.mk ((gs_ hg : w.heap.size ≤ gb150)); replace HB := Aside0.mk (below_step (bl_) hb); clear hb hbox hg) | ((with_reducible refine gate_dst (N := 6) rfl ?_); refine rl_ (Kd.int .i64) 3 6 ([0] : List Int) [.int .i64 0] ?_; intro v152 w3 ho4 hb hg_ hnew_; clear hg_ hnew_; (first | rw [← Ny151.out] at ho4 | (simp only [Int.reduceToNat] at ho4; rw [← Ny151.out] at ho4)); have HO153 := Aside0.mk (Kd.R_lower ho4 (below_size (bl_))); replace BK150 := Aside0.mk (blk_below (bk_ BK150) hb); replace HB := Aside0.mk (below_step (bl_) hb); clear hb ho4; obtain ⟨Ao5, co5, eo5⟩ := Kd.R_slice HO153.out; subst eo5) | ((with_reducible refine gate_dst (N := 4) rfl ?_); refine be_ 4 42 #[.string (⟨#[]⟩ : ByteArray), .slice none 0 0] ?_; intro gb154 hg w6 hbox hb; replace HO153 := Aside0.mk (Kd.R_below (kR_ HO153) hb); have BK154 := Aside0.mk (hbox); have GW154 := Aside0.mk ((gs_ hg : w.heap.size ≤ gb154)); have GE154 := Aside0.mk ((gs_ hg : w.heap.size ≤ gb154)); replace HB := Aside0.mk (below_step (bl_) hb); have NB150_154 := Aside0.mk ((by rw [hg]; exact Nat.ne_of_lt (blk_lt (bk_ BK150)) : gb150 ≠ gb154)); have NB154_150 := Aside0.mk ((by rw [hg]; exact Nat.ne_of_gt (blk_lt (bk_ BK150)) : gb154 ≠ gb150)); replace BK150 := Aside0.mk (blk_below (bk_ BK150) hb); clear hb hbox hg; have hnb7 := NB154_150.out; have hnc7 := NB150_154.out; have hcz8_0 := bc0_ BK154; have hcz8_1 := bc1_ BK154; have hfz8_0 := blk_frozen BK154.out 0; have hfz8_1 := blk_frozen BK154.out 1))
 go_loopg [5] k (fun kq v5 w' => ∃ (x5_1 : Int) (x155000_1 : ByteArray) (x155001_1 : List Int) (u155001 : Value), v5 = .int .i64 x5_1 ∧ Aside0 (spec_PatternGet.l0 kq a0 x5_1 x155000_1 x155001_1 = some (r1, r2, r3)) ∧ Aside0 (kq ≤ k) ∧ Aside0 (Kd.R (Kd.int .i64) 3 w' w.heap.size (fun _ => True) u155001 x155001_1) ∧ Aside0 (w'.heap[gb150]? = some (.cells #[.string (⟨#[]⟩ : ByteArray), (.slice none 0 0)] 42 (0, 0))) ∧ Aside0 (w'.heap[gb154]? = some (.cells #[.string x155000_1, u155001] 42 (0, 0))) ∧ Aside0 (Below w.heap.size w w'))
 case atStart => exact ⟨(0), ((⟨#[]⟩ : ByteArray)), (y151), (.slice Ao5 y151.length co5), rf_, H', ⟨Nat.le_refl _⟩, ⟨by (with_reducible repeat (first | apply Kd.R_alloc | apply Kd.R_drewN | apply Kd.R_drew)); exact Kd.R_mono (Kd.R_far (p := ⟨gb154, 1, none⟩) (Kd.R_far (p := ⟨gb154, 0, none⟩) (Kd.R_types HO153.out BK154.out (by decide)) (fun _ hk => hk.2) (.string (⟨#[]⟩ : ByteArray))) (fun _ hk => hk.2) (.slice Ao5 y151.length co5)) (fun _ hk => trivial)⟩, ⟨by (with_reducible repeat (first | refine blk_drewN ?_ _ | refine blk_drew ?_ | refine blk_alloc ?_ _)); refine blk_far ?_ NB150_154.out _; (with_reducible repeat (first | refine blk_drewN ?_ _ | refine blk_drew ?_ | refine blk_alloc ?_ _)); refine blk_far ?_ NB150_154.out _; (with_reducible repeat (first | refine blk_drewN ?_ _ | refine blk_drew ?_ | refine blk_alloc ?_ _)); exact BK150.out⟩, ⟨by (with_reducible repeat (first | refine blk_drewN ?_ _ | refine blk_drew ?_ | refine blk_alloc ?_ _)); refine blk_put (cs := #[.string (⟨#[]⟩ : ByteArray), .slice none 0 0]) ?_ 1 _ rfl; (with_reducible repeat (first | refine blk_drewN ?_ _ | refine blk_drew ?_ | refine blk_alloc ?_ _)); refine blk_put (cs := #[.string (⟨#[]⟩ : ByteArray), .slice none 0 0]) ?_ 0 _ rfl; (with_reducible repeat (first | refine blk_drewN ?_ _ | refine blk_drew ?_ | refine blk_alloc ?_ _)); exact BK154.out⟩, ⟨bl_⟩⟩
 case round =>
  clear H'
  (try clear p2);(try clear c5);(try clear c7);(try clear hcz8_0);(try clear hcz8_1);(try clear hfz8_0);(try clear hfz8_1)
  obtain ⟨x5_1, x155000_1, x155001_1, u155001, rfl, HA, HK1, HO_155001, BK150, BK154, HB⟩ := hrel
  cases gk with
  | zero => exact absurd HA.out (by simp [spec_PatternGet.l0])
  | succ k1 =>
   have H := HA.out
   clear HA
   simp only [spec_PatternGet.l0] at H
   replace H := iudd_ H; rcases H with ⟨c9b0, H⟩ | ⟨c9b0, H⟩
   · replace H := Option.bind_eq_some_iff.mp H
     obtain ⟨t162, A470, H⟩ := H; try dsimp -simprocs only at H
     have A47 := Aside0.mk A470
     clear A470
     replace H := iub_ H; rcases H with ⟨rfl, H⟩ | ⟨rfl, H⟩
     · simp only [Option.some.injEq, Prod.mk.injEq] at H
       obtain ⟨rfl, rfl, rfl⟩ := H
       have hnb66 := NB154_150.out
       have hnc66 := NB150_154.out
       have hcz67_0 := bc0_ BK154
       have hcz67_1 := bc1_ BK154
       have hfz67_0 := blk_frozen BK154.out 0
       have hfz67_1 := blk_frozen BK154.out 1
       obtain ⟨Ao68, co68, eo68⟩ := Kd.R_slice HO_155001.out
       subst eo68
       go_wp2_with (first | ((with_reducible refine gate_callee (f := 46) rfl ?_); refine gl_ 51 Tryd.func46 #[.agg #[.string x155000_1, .slice Ao68 x155001_1.length co68]] ?_; (with_reducible refine (spec_PatternOk.calls k1 x155000_1 _ _ x155001_1 false _ ?side1 ?side2 A47.out).mono ?_); (case side1 => exact cr_ HO_155001); (case side2 => exact (Kd.R_reads' HO_155001.out).2.1); rintro e w69 ⟨rfl, hb⟩; refine ⟨_, rfl, ?_⟩; replace HO_155001 := Aside0.mk (Kd.R_below (kR_ HO_155001) hb); replace BK150 := Aside0.mk (blk_below (bk_ BK150) hb); replace BK154 := Aside0.mk (blk_below (bk_ BK154) hb); replace HB := Aside0.mk (below_step (bl_) hb); (try clear hb); (try clear hb2); (try clear hk); (try clear hi); have hcz70_0 := bc0_ BK150; have hcz70_1 := bc1_ BK150; have hfz70_0 := blk_frozen BK150.out 0; have hfz70_1 := blk_frozen BK150.out 1))
       refine bodyPost_ret (results_ct rfl _ _ gb150 42 #[.string (⟨#[]⟩ : ByteArray), .slice none 0 0] (0, 0) _ rfl bq_ Tryd.underlying42 rfl (by kernel_rfl)) rfl ?_
       exact ⟨_, rfe_, by first | exact Kd.R_nil _ _ _ _ _ | exact Kd.N_nil _ _ _ _ _ | exact Kd.V_nil _ _ _ _ _ | exact Kd.Q_nil _ _ _ _ _ | exact Kd.S_nil _ _ _ _ _, bl_⟩
     replace H := Option.bind_eq_some_iff.mp H
     obtain ⟨t163, A490, H⟩ := H; try dsimp -simprocs only at H
     have A49 := Aside0.mk A490
     clear A490
     replace H := iucc_ H; rcases H with ⟨c50, H⟩ | ⟨c50, H⟩
     · have c50b0 : (t163.toList == a0.toList) = false := beq_eq_false_iff_ne.mpr c50
       have c50b1 : (t163.toList != a0.toList) = true := bne_iff_ne.mpr c50
       simp only [Option.some.injEq, Prod.mk.injEq] at H
       obtain ⟨rfl, rfl, rfl⟩ := H
       have hnb59 := NB154_150.out
       have hnc59 := NB150_154.out
       have hcz60_0 := bc0_ BK154
       have hcz60_1 := bc1_ BK154
       have hfz60_0 := blk_frozen BK154.out 0
       have hfz60_1 := blk_frozen BK154.out 1
       obtain ⟨Ao61, co61, eo61⟩ := Kd.R_slice HO_155001.out
       subst eo61
       go_wp2_with (first | ((with_reducible refine gate_callee (f := 46) rfl ?_); refine gl_ 51 Tryd.func46 #[.agg #[.string x155000_1, .slice Ao61 x155001_1.length co61]] ?_; (with_reducible refine (spec_PatternOk.calls k1 x155000_1 _ _ x155001_1 true _ ?side1 ?side2 A47.out).mono ?_); (case side1 => exact cr_ HO_155001); (case side2 => exact (Kd.R_reads' HO_155001.out).2.1); rintro e w62 ⟨rfl, hb⟩; refine ⟨_, rfl, ?_⟩; replace HO_155001 := Aside0.mk (Kd.R_below (kR_ HO_155001) hb); replace BK150 := Aside0.mk (blk_below (bk_ BK150) hb); replace BK154 := Aside0.mk (blk_below (bk_ BK154) hb); replace HB := Aside0.mk (below_step (bl_) hb); (try clear hb); (try clear hb2); (try clear hk); (try clear hi); have hcz63_0 := bc0_ BK154; have hcz63_1 := bc1_ BK154; have hfz63_0 := blk_frozen BK154.out 0; have hfz63_1 := blk_frozen BK154.out 1) | (go_at_call 67; (with_reducible refine (spec_l9Put.calls k1 x155000_1 _ _ x155001_1 t163 _ ?side1 ?side2 A49.out).mono ?_); (case side1 => exact cr_ HO_155001); (case side2 => exact (Kd.R_reads' HO_155001.out).2.1); rintro e w64 ⟨rfl, hb⟩; replace HO_155001 := Aside0.mk (Kd.R_below (kR_ HO_155001) hb); replace BK150 := Aside0.mk (blk_below (bk_ BK150) hb); replace BK154 := Aside0.mk (blk_below (bk_ BK154) hb); replace HB := Aside0.mk (below_step (bl_) hb); (try clear hb); (try clear hb2); (try clear hk); (try clear hi); have hcz65_0 := bc0_ BK150; have hcz65_1 := bc1_ BK150; have hfz65_0 := blk_frozen BK150.out 0; have hfz65_1 := blk_frozen BK150.out 1))
       refine bodyPost_ret (results_ct rfl _ _ gb150 42 #[.string (⟨#[]⟩ : ByteArray), .slice none 0 0] (0, 0) _ rfl bq_ Tryd.underlying42 rfl (by kernel_rfl)) rfl ?_
       exact ⟨_, rfe_, by first | exact Kd.R_nil _ _ _ _ _ | exact Kd.N_nil _ _ _ _ _ | exact Kd.V_nil _ _ _ _ _ | exact Kd.Q_nil _ _ _ _ _ | exact Kd.S_nil _ _ _ _ _, bl_⟩
     have c50b0 : (t163.toList == a0.toList) = true := beq_iff_eq.mpr c50
     have c50b1 : (t163.toList != a0.toList) = false := bne_eq_false_iff_eq.mpr c50
     clear c50
     simp only [Option.some.injEq, Prod.mk.injEq] at H
     obtain ⟨rfl, rfl, rfl⟩ := H
     have hnb51 := NB154_150.out
     have hnc51 := NB150_154.out
     have hcz52_0 := bc0_ BK154
     have hcz52_1 := bc1_ BK154
     have hfz52_0 := blk_frozen BK154.out 0
     have hfz52_1 := blk_frozen BK154.out 1
     obtain ⟨Ao53, co53, eo53⟩ := Kd.R_slice HO_155001.out
     subst eo53
     go_wp2_with (first | ((with_reducible refine gate_callee (f := 46) rfl ?_); refine gl_ 51 Tryd.func46 #[.agg #[.string x155000_1, .slice Ao53 x155001_1.length co53]] ?_; (with_reducible refine (spec_PatternOk.calls k1 x155000_1 _ _ x155001_1 true _ ?side1 ?side2 A47.out).mono ?_); (case side1 => exact cr_ HO_155001); (case side2 => exact (Kd.R_reads' HO_155001.out).2.1); rintro e w54 ⟨rfl, hb⟩; refine ⟨_, rfl, ?_⟩; replace HO_155001 := Aside0.mk (Kd.R_below (kR_ HO_155001) hb); replace BK150 := Aside0.mk (blk_below (bk_ BK150) hb); replace BK154 := Aside0.mk (blk_below (bk_ BK154) hb); replace HB := Aside0.mk (below_step (bl_) hb); (try clear hb); (try clear hb2); (try clear hk); (try clear hi); have hcz55_0 := bc0_ BK154; have hcz55_1 := bc1_ BK154; have hfz55_0 := blk_frozen BK154.out 0; have hfz55_1 := blk_frozen BK154.out 1) | (go_at_call 67; (with_reducible refine (spec_l9Put.calls k1 x155000_1 _ _ x155001_1 t163 _ ?side1 ?side2 A49.out).mono ?_); (case side1 => exact cr_ HO_155001); (case side2 => exact (Kd.R_reads' HO_155001.out).2.1); rintro e w56 ⟨rfl, hb⟩; replace HO_155001 := Aside0.mk (Kd.R_below (kR_ HO_155001) hb); replace BK150 := Aside0.mk (blk_below (bk_ BK150) hb); replace BK154 := Aside0.mk (blk_below (bk_ BK154) hb); replace HB := Aside0.mk (below_step (bl_) hb); (try clear hb); (try clear hb2); (try clear hk); (try clear hi); have hcz57_0 := bc0_ BK154; have hcz57_1 := bc1_ BK154; have hfz57_0 := blk_frozen BK154.out 0; have hfz57_1 := blk_frozen BK154.out 1; have hcz58_0 := bc0_ BK150; have hcz58_1 := bc1_ BK150; have hfz58_0 := blk_frozen BK150.out 0; have hfz58_1 := blk_frozen BK150.out 1))
     refine bodyPost_ret (results_ct rfl _ _ gb150 42 #[.string x155000_1, .slice Ao53 x155001_1.length co53] (0, 0) _ rfl bq_ Tryd.underlying42 rfl (by kernel_rfl)) rfl ?_
     exact ⟨_, rfe_, by (with_reducible repeat (first | apply Kd.R_alloc | apply Kd.R_drewN | apply Kd.R_drew)); exact Kd.R_mono (Kd.R_far (p := ⟨gb150, 1, none⟩) (Kd.R_far (p := ⟨gb150, 0, none⟩) (Kd.R_types HO_155001.out BK150.out (by decide)) (fun _ hk => hk.2) (.string x155000_1)) (fun _ hk => hk.2) (.slice Ao53 x155001_1.length co53)) (fun _ hk => trivial), bl_⟩
   replace H := ind_ H; obtain ⟨c10b0, H⟩ := H
   replace H := iucc_ H; rcases H with ⟨c12, H⟩ | ⟨c12, H⟩
   · have c12b0 : decide (48 ≤ (bt a0 x5_1)) = false := decide_eq_false c12
     clear c12
     have c35b0 := eq_true (od_ : 0 ≤ x5_1)
     replace H := inc_ H; obtain ⟨c36, H⟩ := H
     have c36b0 := eq_true c36
     have c36b1 : decide (x5_1 ≤ (wrap64 (x5_1 + 1))) = true := decide_eq_true c36
     replace H := inc_ H; obtain ⟨c37, H⟩ := H
     have c37b0 := eq_true c37
     have c37b1 : decide ((wrap64 (x5_1 + 1)) ≤ (a0.size : Int)) = true := decide_eq_true c37
     replace H := inc_ H; obtain ⟨c38, H⟩ := H
     have c38b0 := eq_true c38
     have c38b1 : decide (x155000_1.size + (((wrap64 (x5_1 + 1)) : Int).toNat - (x5_1 : Int).toNat) ≤ 9223372036854775807) = true := decide_eq_true c38
     try have c38b2 : (9223372036854775807 < x155000_1.size + (((wrap64 (x5_1 + 1)) : Int).toNat - (x5_1 : Int).toNat)) = False := eq_false (Nat.not_lt.2 c38)
     replace H := inc_ H; obtain ⟨c39, H⟩ := H
     have LMc39 := Aside0.mk c39
     clear c39
     obtain ⟨y159, hy_⟩ : ∃ y_ : List Int, y_ = (x155001_1 ++ [0]) := ⟨_, rfl⟩
     replace H : (spec_PatternGet.l0 k1 a0 (wrap64 (x5_1 + 1)) (x155000_1 ++ (a0.extract (x5_1 : Int).toNat ((wrap64 (x5_1 + 1)) : Int).toNat)) y159) = some (r1, r2, r3) := ry_
     have Ny159 := Aside0.mk hy_; clear hy_
     have H' := Aside0.mk H; clear H
     have p11 : 0 ≤ (x5_1 : Int) := od_
     have q11 : x5_1 < (a0.size : Int) := od_
     have hx11 := bt_at a0 x5_1
     replace p11 := eq_true p11; replace q11 := eq_true q11
     try go_wp2
     replace HO_155001 := Aside0.mk (Kd.R_drew HO_155001.out)
     replace BK150 := Aside0.mk (blk_drew BK150.out)
     replace BK154 := Aside0.mk (blk_drew BK154.out)
     replace HB := Aside0.mk (below_drew1 HB.out)
     refine start_ (n := 10) (S := fun w' => w'.cell? ⟨gb154, 0, none⟩ = some (.string x155000_1) ∧ w'.cell? ⟨gb154, 1, none⟩ = some (u155001)) (ds := [9]) (bm 10 0) (by kernel_rfl) rfl rfl ⟨(blk_cell BK154.out 0).trans rfl, (blk_cell BK154.out 1).trans rfl⟩ (fun hHeld => ?_); refine with_tabW spec_PatternGet.tab7 spec_PatternGet.bits7 (fun HT_ HW_ => ?_)
     generalize wr.drew = w40 at HO_155001 BK150 BK154 HB hHeld ⊢
     refine sp_ 0 (some 36) (bm 10 1) HT_ (h := ?_)
     refine sp_ 2 (some 38) (bm 10 5) HT_ (h := ?_)
     refine sp_ 3 (some 39) (bm 10 13) HT_ (h := ?_)
     refine sp_ 4 (some 40) (bm 10 29) HT_ (h := ?_)
     refine sp_ 5 (some 41) (bm 10 61) HT_ (h := ?_)
     refine sp_ 6 (some 42) (bm 10 125) HT_ (h := ?_)
     refine sr_ 1 (some 37) (bm 10 127) HT_ HW_ hHeld (h := ?_)
     refine sp_ 7 (some 43) (bm 10 255) HT_ (h := ?_)
     refine sp_ 8 (some 44) (bm 10 511) HT_ (h := ?_)
     refine la_ 9 none (bm 10 1023) HT_ (fun K hK => ?_)
     have hs41 : w40.cell? ⟨gb154, 0, none⟩ = some (.string x155000_1) := (blk_cell BK154.out 0).trans rfl
     have hfs41 := blk_frozen BK154.out 0
     have hns41_0 := NB150_154.out
     have hms41_0 := NB154_150.out
     refine skip_ (w1 := ?_) (by rfl) rfl ?_ ?_
     rotate_left
     · go_simp
       rfl
     refine hK.out _ _ ?_
     clear hK K
     refine done_ (done_of HT_.out (by kernel_rfl)) ?_
     have hnb42 := NB154_150.out
     have hnc42 := NB150_154.out
     have hcz43_0 := bc0_ BK154
     have hcz43_1 := bc1_ BK154
     have hfz43_0 := blk_frozen BK154.out 0
     have hfz43_1 := blk_frozen BK154.out 1
     try go_wp2_with (first | ((with_reducible refine gate_builtin (b := .append) (xs := #[.tmp 46, .tmp 47]) rfl ?_); at_builtin; refine Kd.R_append (Kd.int .i64) (w0 := w) w.heap.size rfl (.tmp 46) (.tmp 47) 29 3 (.int .i64 0) 8 rfl Tryd.underlying29 info3 rfl (by decide) (by omega) u155001 x155001_1 0 [.int .i64 0] (fun _ => True) (fun _ => False) rfl (by first | (go_simp; done) | (go_simp; rfl)) ?aP (fun _ hk => hk.elim) ?aF ?aO ?aB ?aS ?aL ?_; (case aP => exact rfl); (case aB => exact (bl_)); (case aF => exact (fun _ _ => trivial)); (case aO => exact (by (with_reducible repeat (first | apply Kd.R_alloc | apply Kd.R_drewN | apply Kd.R_drew)); exact Kd.R_mono (Kd.R_far (p := ⟨gb154, 0, none⟩) (Kd.R_types HO_155001.out BK154.out (by decide)) (fun _ hk => hk.2) (.string (x155000_1 ++ (a0.extract (x5_1 : Int).toNat ((wrap64 (x5_1 + 1)) : Int).toNat)))) (fun _ hk => trivial))); (case aS => exact (below_size (bl_))); (case aL => have := LMc39.out; omega); intro v160 w44 ho hb hg hat; rw [← Ny159.out] at ho; replace BK150 := Aside0.mk (blk_grown (g := gb150) (o := .cells #[.string (⟨#[]⟩ : ByteArray), .slice none 0 0] 42 (0, 0)) bq_ hg (Kd.R_ne HO_155001.out BK150.out (by decide))); replace BK154 := Aside0.mk (blk_grown (g := gb154) (o := .cells #[.string (x155000_1 ++ (a0.extract (x5_1 : Int).toNat ((wrap64 (x5_1 + 1)) : Int).toNat)), u155001] 42 (0, 0)) bq_ hg (Kd.R_ne HO_155001.out BK154.out (by decide))); replace HB := Aside0.mk (hb); have HO161 := Aside0.mk (ho); clear HO_155001; clear ho hb hg hat; obtain ⟨Ao45, co45, eo45⟩ := Kd.R_slice HO161.out; subst eo45; have hcz46_0 := bc0_ BK154; have hcz46_1 := bc1_ BK154; have hfz46_0 := blk_frozen BK154.out 0; have hfz46_1 := blk_frozen BK154.out 1))
     go_roundg k1
     case measure => have := HK1.out; omega
     case rel => exact ⟨(wrap64 (x5_1 + 1)), (x155000_1 ++ (a0.extract (x5_1 : Int).toNat ((wrap64 (x5_1 + 1)) : Int).toNat)), (y159), (.slice Ao45 y159.length co45), rf_, H', ⟨by have := HK1.out; omega⟩, ⟨by (with_reducible repeat (first | apply Kd.R_alloc | apply Kd.R_drewN | apply Kd.R_drew)); exact Kd.R_mono (Kd.R_far (p := ⟨gb154, 1, none⟩) (Kd.R_types HO161.out BK154.out (by decide)) (fun _ hk => hk.2) (.slice Ao45 y159.length co45)) (fun _ hk => trivial)⟩, ⟨by (with_reducible repeat (first | refine blk_drewN ?_ _ | refine blk_drew ?_ | refine blk_alloc ?_ _)); refine blk_far ?_ NB150_154.out _; (with_reducible repeat (first | refine blk_drewN ?_ _ | refine blk_drew ?_ | refine blk_alloc ?_ _)); exact BK150.out⟩, ⟨by (with_reducible repeat (first | refine blk_drewN ?_ _ | refine blk_drew ?_ | refine blk_alloc ?_ _)); refine blk_put (cs := #[.string (x155000_1 ++ (a0.extract (x5_1 : Int).toNat ((wrap64 (x5_1 + 1)) : Int).toNat)), u155001]) ?_ 1 _ rfl; (with_reducible repeat (first | refine blk_drewN ?_ _ | refine blk_drew ?_ | refine blk_alloc ?_ _)); exact BK154.out⟩, ⟨bl_⟩⟩
   have c12b0 : decide (48 ≤ (bt a0 x5_1)) = true := decide_eq_true c12
   clear c12
   replace H := itdd_ H; rcases H with ⟨c14b0, H⟩ | ⟨c14b0, H⟩
   · obtain ⟨ji16, hji16⟩ : ∃ j_ : Int, (wrap64 ((x155001_1.length : Int) - 1)) = j_ := ⟨_, rfl⟩
     replace H : (if 0 ≤ (ji16) then (if (ji16) < (x155001_1.length : Int) then (spec_PatternGet.l0 k1 a0 (wrap64 (x5_1 + 1)) x155000_1 (x155001_1.set ((ji16) : Int).toNat (((bt a0 x5_1) - 48) % 256))) else (none)) else (none)) = some (r1, r2, r3) := by first | (rw [hji16] at H; exact H) | (simp only [hji16] at H ⊢; exact H)
     have hji16w : (IntKind.i64.wrap ((x155001_1.length : Int) - 1)) = ji16 := (i64_w _).trans hji16
     replace H := ind_ H; obtain ⟨c17b0, H⟩ := H
     replace H := ind_ H; obtain ⟨c18b0, H⟩ := H
     obtain ⟨y155, hy_⟩ : ∃ y_ : List Int, y_ = (x155001_1.set ((ji16) : Int).toNat (((bt a0 x5_1) - 48) % 256)) := ⟨_, rfl⟩
     replace H : (spec_PatternGet.l0 k1 a0 (wrap64 (x5_1 + 1)) x155000_1 y155) = some (r1, r2, r3) := ry_
     have Ny155 := Aside0.mk hy_; clear hy_
     have H' := Aside0.mk H; clear H
     have p11 : 0 ≤ (x5_1 : Int) := od_
     have q11 : x5_1 < (a0.size : Int) := od_
     have hx11 := bt_at a0 x5_1
     replace p11 := eq_true p11; replace q11 := eq_true q11
     have p13 : 0 ≤ (x5_1 : Int) := od_
     have q13 : x5_1 < (a0.size : Int) := od_
     have hx13 := bt_at a0 x5_1
     replace p13 := eq_true p13; replace q13 := eq_true q13
     try go_wp2
     replace HO_155001 := Aside0.mk (Kd.R_drew HO_155001.out)
     replace BK150 := Aside0.mk (blk_drew BK150.out)
     replace BK154 := Aside0.mk (blk_drew BK154.out)
     replace HB := Aside0.mk (below_drew1 HB.out)
     obtain ⟨Ao21, co21, eo21⟩ := Kd.R_slice HO_155001.out
     (first | subst eo21 | (injection eo21 with f1_ f2_ f3_; have f4_ := f1_.symm; have f5_ := f3_.symm; clear f1_ f2_ f3_; subst f4_; subst f5_))
     have p15 : 0 ≤ (x5_1 : Int) := od_
     have q15 : x5_1 < (a0.size : Int) := od_
     have hx15 := bt_at a0 x5_1
     replace p15 := eq_true p15; replace q15 := eq_true q15
     have p19 : 0 ≤ ((ji16) : Int) := od_
     have q19 : ((ji16) : Int) < ((x155001_1.length : Int) : Int) := od_
     obtain ⟨go19, co19, eo19, gb19, gl19, cl19, HG19⟩ := Kd.R_form HO_155001.out (by omega)
     (first | cases eo19 | (injection eo19 with ea_ en_ ec_; (first | subst ea_ | (injection ea_ with ea_; subst ea_)); subst ec_; clear en_))
     have GB19 := Aside0.mk gb19
     have GG19 := Aside0.mk HG19
     clear gb19 gl19 HG19
     obtain ⟨hx19_0, hf19_0⟩ := Kd.R_celln 0 HO_155001.out ((ji16) : Int) p19 q19
     replace p19 := eq_true p19; replace q19 := eq_true q19
     have HP22 := Kd.R_putn HO_155001.out ((ji16) : Int) (((bt a0 x5_1) - 48) % 256)
     rw [← Ny155.out] at HP22
     have HQ22 := Aside0.mk HP22
     clear HP22
     refine start_ (n := 13) (S := fun w' => w'.cell? ⟨gb154, 0, none⟩ = some (.string x155000_1) ∧ w'.cell? ⟨gb154, 1, none⟩ = some (.slice (some ⟨go19, 0, none⟩) x155001_1.length co21)) (ds := [12]) (bm 13 0) (by kernel_rfl) rfl rfl ⟨(blk_cell BK154.out 0).trans rfl, (blk_cell BK154.out 1).trans rfl⟩ (fun hHeld => ?_); refine with_tabW spec_PatternGet.tab6 spec_PatternGet.bits6 (fun HT_ HW_ => ?_)
     generalize wr.drew = w20 at HO_155001 BK150 BK154 HB GG19 HQ22 hf19_0 hx19_0 hHeld ⊢
     refine sp_ 0 (some 24) (bm 13 1) HT_ (h := ?_)
     refine sp_ 2 (some 26) (bm 13 5) HT_ (h := ?_)
     refine sp_ 6 (some 30) (bm 13 69) HT_ (h := ?_)
     refine sp_ 7 (some 31) (bm 13 197) HT_ (h := ?_)
     refine sr_ 1 (some 25) (bm 13 199) HT_ HW_ hHeld (h := ?_)
     refine sr_ 3 (some 27) (bm 13 207) HT_ HW_ hHeld (h := ?_)
     refine sp_ 4 (some 28) (bm 13 223) HT_ (h := ?_)
     refine sp_ 5 (some 29) (bm 13 255) HT_ (h := ?_)
     refine sr_ 8 (some 32) (bm 13 511) HT_ HW_ hHeld (h := ?_)
     refine sp_ 9 (some 33) (bm 13 1023) HT_ (h := ?_)
     refine sp_ 10 (some 34) (bm 13 2047) HT_ (h := ?_)
     refine sp_ 11 (some 35) (bm 13 4095) HT_ (h := ?_)
     refine la_ 12 none (bm 13 8191) HT_ (fun K hK => ?_)
     refine skip_ (w1 := ?_) (by rfl) rfl ?_ ?_
     rotate_left
     · go_simp
       rfl
     refine hK.out _ _ ?_
     clear hK K
     refine done_ (done_of HT_.out (by kernel_rfl)) ?_
     try go_wp2
     go_roundg k1
     case measure => have := HK1.out; omega
     case rel => exact ⟨(wrap64 (x5_1 + 1)), (x155000_1), (y155), (.slice (some ⟨go19, 0, none⟩) x155001_1.length co21), rf_, H', ⟨by have := HK1.out; omega⟩, ⟨by (with_reducible repeat (first | apply Kd.R_alloc | apply Kd.R_drewN | apply Kd.R_drew)); exact HQ22.out⟩, ⟨by (with_reducible repeat (first | refine blk_drewN ?_ _ | refine blk_drew ?_ | refine blk_alloc ?_ _)); refine blk_far ?_ (by have h_ := Kd.R_ne HO_155001.out BK150.out (by decide); intro e_; exact h_ (by rw [e_]; rfl)) _; (with_reducible repeat (first | refine blk_drewN ?_ _ | refine blk_drew ?_ | refine blk_alloc ?_ _)); exact BK150.out⟩, ⟨by (with_reducible repeat (first | refine blk_drewN ?_ _ | refine blk_drew ?_ | refine blk_alloc ?_ _)); refine blk_far ?_ (by have h_ := Kd.R_ne HO_155001.out BK154.out (by decide); intro e_; exact h_ (by rw [e_]; rfl)) _; (with_reducible repeat (first | refine blk_drewN ?_ _ | refine blk_drew ?_ | refine blk_alloc ?_ _)); exact BK154.out⟩, ⟨bs_⟩⟩
   have c23b0 := eq_true (od_ : 0 ≤ x5_1)
   replace H := inc_ H; obtain ⟨c24, H⟩ := H
   have c24b0 := eq_true c24
   have c24b1 : decide (x5_1 ≤ (wrap64 (x5_1 + 1))) = true := decide_eq_true c24
   replace H := inc_ H; obtain ⟨c25, H⟩ := H
   have c25b0 := eq_true c25
   have c25b1 : decide ((wrap64 (x5_1 + 1)) ≤ (a0.size : Int)) = true := decide_eq_true c25
   replace H := inc_ H; obtain ⟨c26, H⟩ := H
   have c26b0 := eq_true c26
   have c26b1 : decide (x155000_1.size + (((wrap64 (x5_1 + 1)) : Int).toNat - (x5_1 : Int).toNat) ≤ 9223372036854775807) = true := decide_eq_true c26
   try have c26b2 : (9223372036854775807 < x155000_1.size + (((wrap64 (x5_1 + 1)) : Int).toNat - (x5_1 : Int).toNat)) = False := eq_false (Nat.not_lt.2 c26)
   replace H := inc_ H; obtain ⟨c27, H⟩ := H
   have LMc27 := Aside0.mk c27
   clear c27
   obtain ⟨y156, hy_⟩ : ∃ y_ : List Int, y_ = (x155001_1 ++ [0]) := ⟨_, rfl⟩
   replace H : (spec_PatternGet.l0 k1 a0 (wrap64 (x5_1 + 1)) (x155000_1 ++ (a0.extract (x5_1 : Int).toNat ((wrap64 (x5_1 + 1)) : Int).toNat)) y156) = some (r1, r2, r3) := ry_
   have Ny156 := Aside0.mk hy_; clear hy_
   have H' := Aside0.mk H; clear H
   have p11 : 0 ≤ (x5_1 : Int) := od_
   have q11 : x5_1 < (a0.size : Int) := od_
   have hx11 := bt_at a0 x5_1
   replace p11 := eq_true p11; replace q11 := eq_true q11
   have p13 : 0 ≤ (x5_1 : Int) := od_
   have q13 : x5_1 < (a0.size : Int) := od_
   have hx13 := bt_at a0 x5_1
   replace p13 := eq_true p13; replace q13 := eq_true q13
   try go_wp2
   replace HO_155001 := Aside0.mk (Kd.R_drew HO_155001.out)
   replace BK150 := Aside0.mk (blk_drew BK150.out)
   replace BK154 := Aside0.mk (blk_drew BK154.out)
   replace HB := Aside0.mk (below_drew1 HB.out)
   refine start_ (n := 10) (S := fun w' => w'.cell? ⟨gb154, 0, none⟩ = some (.string x155000_1) ∧ w'.cell? ⟨gb154, 1, none⟩ = some (u155001)) (ds := [9]) (bm 10 0) (by kernel_rfl) rfl rfl ⟨(blk_cell BK154.out 0).trans rfl, (blk_cell BK154.out 1).trans rfl⟩ (fun hHeld => ?_); refine with_tabW spec_PatternGet.tab7 spec_PatternGet.bits7 (fun HT_ HW_ => ?_)
   generalize wr.drew = w28 at HO_155001 BK150 BK154 HB hHeld ⊢
   refine sp_ 0 (some 36) (bm 10 1) HT_ (h := ?_)
   refine sp_ 2 (some 38) (bm 10 5) HT_ (h := ?_)
   refine sp_ 3 (some 39) (bm 10 13) HT_ (h := ?_)
   refine sp_ 4 (some 40) (bm 10 29) HT_ (h := ?_)
   refine sp_ 5 (some 41) (bm 10 61) HT_ (h := ?_)
   refine sp_ 6 (some 42) (bm 10 125) HT_ (h := ?_)
   refine sr_ 1 (some 37) (bm 10 127) HT_ HW_ hHeld (h := ?_)
   refine sp_ 7 (some 43) (bm 10 255) HT_ (h := ?_)
   refine sp_ 8 (some 44) (bm 10 511) HT_ (h := ?_)
   refine la_ 9 none (bm 10 1023) HT_ (fun K hK => ?_)
   have hs29 : w28.cell? ⟨gb154, 0, none⟩ = some (.string x155000_1) := (blk_cell BK154.out 0).trans rfl
   have hfs29 := blk_frozen BK154.out 0
   have hns29_0 := NB150_154.out
   have hms29_0 := NB154_150.out
   refine skip_ (w1 := ?_) (by rfl) rfl ?_ ?_
   rotate_left
   · go_simp
     rfl
   refine hK.out _ _ ?_
   clear hK K
   refine done_ (done_of HT_.out (by kernel_rfl)) ?_
   have hnb30 := NB154_150.out
   have hnc30 := NB150_154.out
   have hcz31_0 := bc0_ BK154
   have hcz31_1 := bc1_ BK154
   have hfz31_0 := blk_frozen BK154.out 0
   have hfz31_1 := blk_frozen BK154.out 1
   try go_wp2_with (first | ((with_reducible refine gate_builtin (b := .append) (xs := #[.tmp 46, .tmp 47]) rfl ?_); at_builtin; refine Kd.R_append (Kd.int .i64) (w0 := w) w.heap.size rfl (.tmp 46) (.tmp 47) 29 3 (.int .i64 0) 8 rfl Tryd.underlying29 info3 rfl (by decide) (by omega) u155001 x155001_1 0 [.int .i64 0] (fun _ => True) (fun _ => False) rfl (by first | (go_simp; done) | (go_simp; rfl)) ?aP (fun _ hk => hk.elim) ?aF ?aO ?aB ?aS ?aL ?_; (case aP => exact rfl); (case aB => exact (bl_)); (case aF => exact (fun _ _ => trivial)); (case aO => exact (by (with_reducible repeat (first | apply Kd.R_alloc | apply Kd.R_drewN | apply Kd.R_drew)); exact Kd.R_mono (Kd.R_far (p := ⟨gb154, 0, none⟩) (Kd.R_types HO_155001.out BK154.out (by decide)) (fun _ hk => hk.2) (.string (x155000_1 ++ (a0.extract (x5_1 : Int).toNat ((wrap64 (x5_1 + 1)) : Int).toNat)))) (fun _ hk => trivial))); (case aS => exact (below_size (bl_))); (case aL => have := LMc27.out; omega); intro v157 w32 ho hb hg hat; rw [← Ny156.out] at ho; replace BK150 := Aside0.mk (blk_grown (g := gb150) (o := .cells #[.string (⟨#[]⟩ : ByteArray), .slice none 0 0] 42 (0, 0)) bq_ hg (Kd.R_ne HO_155001.out BK150.out (by decide))); replace BK154 := Aside0.mk (blk_grown (g := gb154) (o := .cells #[.string (x155000_1 ++ (a0.extract (x5_1 : Int).toNat ((wrap64 (x5_1 + 1)) : Int).toNat)), u155001] 42 (0, 0)) bq_ hg (Kd.R_ne HO_155001.out BK154.out (by decide))); replace HB := Aside0.mk (hb); have HO158 := Aside0.mk (ho); clear HO_155001; clear ho hb hg hat; obtain ⟨Ao33, co33, eo33⟩ := Kd.R_slice HO158.out; subst eo33; have hcz34_0 := bc0_ BK154; have hcz34_1 := bc1_ BK154; have hfz34_0 := blk_frozen BK154.out 0; have hfz34_1 := blk_frozen BK154.out 1))
   go_roundg k1
   case measure => have := HK1.out; omega
   case rel => exact ⟨(wrap64 (x5_1 + 1)), (x155000_1 ++ (a0.extract (x5_1 : Int).toNat ((wrap64 (x5_1 + 1)) : Int).toNat)), (y156), (.slice Ao33 y156.length co33), rf_, H', ⟨by have := HK1.out; omega⟩, ⟨by (with_reducible repeat (first | apply Kd.R_alloc | apply Kd.R_drewN | apply Kd.R_drew)); exact Kd.R_mono (Kd.R_far (p := ⟨gb154, 1, none⟩) (Kd.R_types HO158.out BK154.out (by decide)) (fun _ hk => hk.2) (.slice Ao33 y156.length co33)) (fun _ hk => trivial)⟩, ⟨by (with_reducible repeat (first | refine blk_drewN ?_ _ | refine blk_drew ?_ | refine blk_alloc ?_ _)); refine blk_far ?_ NB150_154.out _; (with_reducible repeat (first | refine blk_drewN ?_ _ | refine blk_drew ?_ | refine blk_alloc ?_ _)); exact BK150.out⟩, ⟨by (with_reducible repeat (first | refine blk_drewN ?_ _ | refine blk_drew ?_ | refine blk_alloc ?_ _)); refine blk_put (cs := #[.string (x155000_1 ++ (a0.extract (x5_1 : Int).toNat ((wrap64 (x5_1 + 1)) : Int).toNat)), u155001]) ?_ 1 _ rfl; (with_reducible repeat (first | refine blk_drewN ?_ _ | refine blk_drew ?_ | refine blk_alloc ?_ _)); exact BK154.out⟩, ⟨bl_⟩⟩

end Go.Proofs.YtlmbmfnimpjgmaaDoor.P
