-- Written by a program of this session (wip/gen/gen.py) out of Lean's print of the loaded program; Lean checks it.
import Derived.Test.YtbopiacjioedeaaP0
import Derived.Test.YtbopiacjioedeaaSq2
namespace Go.Proofs.Ytbopiacjioedeaa.P
open Go.RowKit Go.Proofs.YtbopiacjioedeaaW.PrintWords Go.Proofs.YtbopiacjioedeaaW.PrintLast Go.Proofs.YtbopiacjioedeaaW.PrintMore
attribute [local go_sem] max2_int min2_int max_two min_two max_three min_three max_four min_four IntKind.wrap_u8 IntKind.wrap_u32 w64_256 w64_u32
set_option maxHeartbeats 8000000
set_option maxRecDepth 100000
set_option linter.unusedVariables false
set_option linter.unusedSimpArgs false

/-! ### laws_eqAffix: function 60 -/
def laws_eqAffix.f (a0_0 : ByteArray) (a0_1 : Bool) (a0_2 : ByteArray) (a0_3 : ByteArray) (a0_4 : ByteArray) (a1_0 : ByteArray) (a1_1 : Bool) (a1_2 : ByteArray) (a1_3 : ByteArray) (a1_4 : ByteArray) : Option (Bool) := if a0_0.toList = a1_0.toList then (if (a0_1 != a1_1) = true then (some false) else (if a0_2.toList = a1_2.toList then (if a0_3.toList = a1_3.toList then (if a0_4.toList = a1_4.toList then (some true) else (some false)) else (some false)) else (some false))) else (some false)
theorem laws_eqAffix.calls (a0_0 : ByteArray) (a0_1 : Bool) (a0_2 : ByteArray) (a0_3 : ByteArray) (a0_4 : ByteArray) (a1_0 : ByteArray) (a1_1 : Bool) (a1_2 : ByteArray) (a1_3 : ByteArray) (a1_4 : ByteArray) (r : Bool) (w : World) (h : laws_eqAffix.f a0_0 a0_1 a0_2 a0_3 a0_4 a1_0 a1_1 a1_2 a1_3 a1_4 = some r) :
 Calls Try.prog 60 #[.agg #[.string a0_0, .bool a0_1, .string a0_2, .string a0_3, .string a0_4], .agg #[.string a1_0, .bool a1_1, .string a1_2, .string a1_3, .string a1_4]] w fun e w' => e = .returned (.bool r) ∧ Below w.heap.size w w' := by
 have hu68 := Try.underlying68
 have HB := Aside0.mk (Below.refl w.heap.size w)
 unfold laws_eqAffix.f at h; have H := h; clear h
 replace H := iucc_ H; rcases H with ⟨c3, H⟩ | ⟨c3, H⟩
 · have c3b0 : (a0_0.toList == a1_0.toList) = false := beq_eq_false_iff_ne.mpr c3
   have c3b1 : (a0_0.toList != a1_0.toList) = true := bne_iff_ne.mpr c3
   obtain rfl := Option.some.inj H
   go_enter Try.func60, Try.ntmps60
   go_wp2_with (first | ((with_reducible refine gate_dst (N := 2) rfl ?_); refine be_ 2 68 #[.string a0_0, .bool a0_1, .string a0_2, .string a0_3, .string a0_4] ?_; intro gb397 hg w33 hbox hb; have BK397 := Aside0.mk (hbox); have GW397 := Aside0.mk ((gs_ hg : w.heap.size ≤ gb397)); have GE397 := Aside0.mk ((gs_ hg : w.heap.size ≤ gb397)); replace HB := Aside0.mk (below_step (bl_) hb); clear hb hbox hg) | ((with_reducible refine gate_dst (N := 3) rfl ?_); refine be_ 3 68 #[.string a1_0, .bool a1_1, .string a1_2, .string a1_3, .string a1_4] ?_; intro gb398 hg w34 hbox hb; have BK398 := Aside0.mk (hbox); have GW398 := Aside0.mk ((gs_ hg : w.heap.size ≤ gb398)); have GE398 := Aside0.mk ((gs_ hg : w.heap.size ≤ gb398)); replace HB := Aside0.mk (below_step (bl_) hb); have NB397_398 := Aside0.mk ((by rw [hg]; exact Nat.ne_of_lt (blk_lt (bk_ BK397)) : gb397 ≠ gb398)); have NB398_397 := Aside0.mk ((by rw [hg]; exact Nat.ne_of_gt (blk_lt (bk_ BK397)) : gb398 ≠ gb397)); replace BK397 := Aside0.mk (blk_below (bk_ BK397) hb); clear hb hbox hg; have hnb35 := NB397_398.out; have hnc35 := NB398_397.out; have hcz36_0 := bc0_ BK397; have hcz36_1 := bc1_ BK397; have hcz36_2 := bc2_ BK397; have hcz36_3 := bc3_ BK397; have hcz36_4 := bc4_ BK397; have hfz36_0 := blk_frozen BK397.out 0; have hfz36_1 := blk_frozen BK397.out 1; have hfz36_2 := blk_frozen BK397.out 2; have hfz36_3 := blk_frozen BK397.out 3; have hfz36_4 := blk_frozen BK397.out 4; have hcz37_0 := bc0_ BK398; have hcz37_1 := bc1_ BK398; have hcz37_2 := bc2_ BK398; have hcz37_3 := bc3_ BK398; have hcz37_4 := bc4_ BK398; have hfz37_0 := blk_frozen BK398.out 0; have hfz37_1 := blk_frozen BK398.out 1; have hfz37_2 := blk_frozen BK398.out 2; have hfz37_3 := blk_frozen BK398.out 3; have hfz37_4 := blk_frozen BK398.out 4))
   go_ret
   exact ⟨rfe_, bl_⟩
 have c3b0 : (a0_0.toList == a1_0.toList) = true := beq_iff_eq.mpr c3
 have c3b1 : (a0_0.toList != a1_0.toList) = false := bne_eq_false_iff_eq.mpr c3
 clear c3
 replace H := itcc_ H; rcases H with ⟨c4, H⟩ | ⟨c4, H⟩
 · have c4b0 : (a0_1 != a1_1) = true := c4
   (try (have c4b1 : decide (a0_1 = a1_1) = false := by simpa using c4))
   (try (have c4b2 : (a0_1 == a1_1) = false := by simpa using c4))
   (try (have c4b3 : ¬ (a0_1 = a1_1) := by simpa using c4))
   clear c4
   obtain rfl := Option.some.inj H
   go_enter Try.func60, Try.ntmps60
   go_wp2_with (first | ((with_reducible refine gate_dst (N := 2) rfl ?_); refine be_ 2 68 #[.string a0_0, .bool a0_1, .string a0_2, .string a0_3, .string a0_4] ?_; intro gb397 hg w5 hbox hb; have BK397 := Aside0.mk (hbox); have GW397 := Aside0.mk ((gs_ hg : w.heap.size ≤ gb397)); have GE397 := Aside0.mk ((gs_ hg : w.heap.size ≤ gb397)); replace HB := Aside0.mk (below_step (bl_) hb); clear hb hbox hg) | ((with_reducible refine gate_dst (N := 3) rfl ?_); refine be_ 3 68 #[.string a1_0, .bool a1_1, .string a1_2, .string a1_3, .string a1_4] ?_; intro gb398 hg w6 hbox hb; have BK398 := Aside0.mk (hbox); have GW398 := Aside0.mk ((gs_ hg : w.heap.size ≤ gb398)); have GE398 := Aside0.mk ((gs_ hg : w.heap.size ≤ gb398)); replace HB := Aside0.mk (below_step (bl_) hb); have NB397_398 := Aside0.mk ((by rw [hg]; exact Nat.ne_of_lt (blk_lt (bk_ BK397)) : gb397 ≠ gb398)); have NB398_397 := Aside0.mk ((by rw [hg]; exact Nat.ne_of_gt (blk_lt (bk_ BK397)) : gb398 ≠ gb397)); replace BK397 := Aside0.mk (blk_below (bk_ BK397) hb); clear hb hbox hg; have hnb7 := NB397_398.out; have hnc7 := NB398_397.out; have hcz8_0 := bc0_ BK397; have hcz8_1 := bc1_ BK397; have hcz8_2 := bc2_ BK397; have hcz8_3 := bc3_ BK397; have hcz8_4 := bc4_ BK397; have hfz8_0 := blk_frozen BK397.out 0; have hfz8_1 := blk_frozen BK397.out 1; have hfz8_2 := blk_frozen BK397.out 2; have hfz8_3 := blk_frozen BK397.out 3; have hfz8_4 := blk_frozen BK397.out 4; have hcz9_0 := bc0_ BK398; have hcz9_1 := bc1_ BK398; have hcz9_2 := bc2_ BK398; have hcz9_3 := bc3_ BK398; have hcz9_4 := bc4_ BK398; have hfz9_0 := blk_frozen BK398.out 0; have hfz9_1 := blk_frozen BK398.out 1; have hfz9_2 := blk_frozen BK398.out 2; have hfz9_3 := blk_frozen BK398.out 3; have hfz9_4 := blk_frozen BK398.out 4))
   go_ret
   exact ⟨rfe_, bl_⟩
 have c4b0 : (a0_1 != a1_1) = false := by simpa using c4
 (try (have c4b1 : decide (a0_1 = a1_1) = true := by simpa using c4))
 (try (have c4b2 : (a0_1 == a1_1) = true := by simpa using c4))
 clear c4
 replace H := iucc_ H; rcases H with ⟨c10, H⟩ | ⟨c10, H⟩
 · have c10b0 : (a0_2.toList == a1_2.toList) = false := beq_eq_false_iff_ne.mpr c10
   have c10b1 : (a0_2.toList != a1_2.toList) = true := bne_iff_ne.mpr c10
   obtain rfl := Option.some.inj H
   go_enter Try.func60, Try.ntmps60
   go_wp2_with (first | ((with_reducible refine gate_dst (N := 2) rfl ?_); refine be_ 2 68 #[.string a0_0, .bool a0_1, .string a0_2, .string a0_3, .string a0_4] ?_; intro gb397 hg w28 hbox hb; have BK397 := Aside0.mk (hbox); have GW397 := Aside0.mk ((gs_ hg : w.heap.size ≤ gb397)); have GE397 := Aside0.mk ((gs_ hg : w.heap.size ≤ gb397)); replace HB := Aside0.mk (below_step (bl_) hb); clear hb hbox hg) | ((with_reducible refine gate_dst (N := 3) rfl ?_); refine be_ 3 68 #[.string a1_0, .bool a1_1, .string a1_2, .string a1_3, .string a1_4] ?_; intro gb398 hg w29 hbox hb; have BK398 := Aside0.mk (hbox); have GW398 := Aside0.mk ((gs_ hg : w.heap.size ≤ gb398)); have GE398 := Aside0.mk ((gs_ hg : w.heap.size ≤ gb398)); replace HB := Aside0.mk (below_step (bl_) hb); have NB397_398 := Aside0.mk ((by rw [hg]; exact Nat.ne_of_lt (blk_lt (bk_ BK397)) : gb397 ≠ gb398)); have NB398_397 := Aside0.mk ((by rw [hg]; exact Nat.ne_of_gt (blk_lt (bk_ BK397)) : gb398 ≠ gb397)); replace BK397 := Aside0.mk (blk_below (bk_ BK397) hb); clear hb hbox hg; have hnb30 := NB397_398.out; have hnc30 := NB398_397.out; have hcz31_0 := bc0_ BK397; have hcz31_1 := bc1_ BK397; have hcz31_2 := bc2_ BK397; have hcz31_3 := bc3_ BK397; have hcz31_4 := bc4_ BK397; have hfz31_0 := blk_frozen BK397.out 0; have hfz31_1 := blk_frozen BK397.out 1; have hfz31_2 := blk_frozen BK397.out 2; have hfz31_3 := blk_frozen BK397.out 3; have hfz31_4 := blk_frozen BK397.out 4; have hcz32_0 := bc0_ BK398; have hcz32_1 := bc1_ BK398; have hcz32_2 := bc2_ BK398; have hcz32_3 := bc3_ BK398; have hcz32_4 := bc4_ BK398; have hfz32_0 := blk_frozen BK398.out 0; have hfz32_1 := blk_frozen BK398.out 1; have hfz32_2 := blk_frozen BK398.out 2; have hfz32_3 := blk_frozen BK398.out 3; have hfz32_4 := blk_frozen BK398.out 4))
   go_ret
   exact ⟨rfe_, bl_⟩
 have c10b0 : (a0_2.toList == a1_2.toList) = true := beq_iff_eq.mpr c10
 have c10b1 : (a0_2.toList != a1_2.toList) = false := bne_eq_false_iff_eq.mpr c10
 clear c10
 replace H := iucc_ H; rcases H with ⟨c11, H⟩ | ⟨c11, H⟩
 · have c11b0 : (a0_3.toList == a1_3.toList) = false := beq_eq_false_iff_ne.mpr c11
   have c11b1 : (a0_3.toList != a1_3.toList) = true := bne_iff_ne.mpr c11
   obtain rfl := Option.some.inj H
   go_enter Try.func60, Try.ntmps60
   go_wp2_with (first | ((with_reducible refine gate_dst (N := 2) rfl ?_); refine be_ 2 68 #[.string a0_0, .bool a0_1, .string a0_2, .string a0_3, .string a0_4] ?_; intro gb397 hg w23 hbox hb; have BK397 := Aside0.mk (hbox); have GW397 := Aside0.mk ((gs_ hg : w.heap.size ≤ gb397)); have GE397 := Aside0.mk ((gs_ hg : w.heap.size ≤ gb397)); replace HB := Aside0.mk (below_step (bl_) hb); clear hb hbox hg) | ((with_reducible refine gate_dst (N := 3) rfl ?_); refine be_ 3 68 #[.string a1_0, .bool a1_1, .string a1_2, .string a1_3, .string a1_4] ?_; intro gb398 hg w24 hbox hb; have BK398 := Aside0.mk (hbox); have GW398 := Aside0.mk ((gs_ hg : w.heap.size ≤ gb398)); have GE398 := Aside0.mk ((gs_ hg : w.heap.size ≤ gb398)); replace HB := Aside0.mk (below_step (bl_) hb); have NB397_398 := Aside0.mk ((by rw [hg]; exact Nat.ne_of_lt (blk_lt (bk_ BK397)) : gb397 ≠ gb398)); have NB398_397 := Aside0.mk ((by rw [hg]; exact Nat.ne_of_gt (blk_lt (bk_ BK397)) : gb398 ≠ gb397)); replace BK397 := Aside0.mk (blk_below (bk_ BK397) hb); clear hb hbox hg; have hnb25 := NB397_398.out; have hnc25 := NB398_397.out; have hcz26_0 := bc0_ BK397; have hcz26_1 := bc1_ BK397; have hcz26_2 := bc2_ BK397; have hcz26_3 := bc3_ BK397; have hcz26_4 := bc4_ BK397; have hfz26_0 := blk_frozen BK397.out 0; have hfz26_1 := blk_frozen BK397.out 1; have hfz26_2 := blk_frozen BK397.out 2; have hfz26_3 := blk_frozen BK397.out 3; have hfz26_4 := blk_frozen BK397.out 4; have hcz27_0 := bc0_ BK398; have hcz27_1 := bc1_ BK398; have hcz27_2 := bc2_ BK398; have hcz27_3 := bc3_ BK398; have hcz27_4 := bc4_ BK398; have hfz27_0 := blk_frozen BK398.out 0; have hfz27_1 := blk_frozen BK398.out 1; have hfz27_2 := blk_frozen BK398.out 2; have hfz27_3 := blk_frozen BK398.out 3; have hfz27_4 := blk_frozen BK398.out 4))
   go_ret
   exact ⟨rfe_, bl_⟩
 have c11b0 : (a0_3.toList == a1_3.toList) = true := beq_iff_eq.mpr c11
 have c11b1 : (a0_3.toList != a1_3.toList) = false := bne_eq_false_iff_eq.mpr c11
 clear c11
 replace H := iucc_ H; rcases H with ⟨c12, H⟩ | ⟨c12, H⟩
 · have c12b0 : (a0_4.toList == a1_4.toList) = false := beq_eq_false_iff_ne.mpr c12
   have c12b1 : (a0_4.toList != a1_4.toList) = true := bne_iff_ne.mpr c12
   obtain rfl := Option.some.inj H
   go_enter Try.func60, Try.ntmps60
   go_wp2_with (first | ((with_reducible refine gate_dst (N := 2) rfl ?_); refine be_ 2 68 #[.string a0_0, .bool a0_1, .string a0_2, .string a0_3, .string a0_4] ?_; intro gb397 hg w18 hbox hb; have BK397 := Aside0.mk (hbox); have GW397 := Aside0.mk ((gs_ hg : w.heap.size ≤ gb397)); have GE397 := Aside0.mk ((gs_ hg : w.heap.size ≤ gb397)); replace HB := Aside0.mk (below_step (bl_) hb); clear hb hbox hg) | ((with_reducible refine gate_dst (N := 3) rfl ?_); refine be_ 3 68 #[.string a1_0, .bool a1_1, .string a1_2, .string a1_3, .string a1_4] ?_; intro gb398 hg w19 hbox hb; have BK398 := Aside0.mk (hbox); have GW398 := Aside0.mk ((gs_ hg : w.heap.size ≤ gb398)); have GE398 := Aside0.mk ((gs_ hg : w.heap.size ≤ gb398)); replace HB := Aside0.mk (below_step (bl_) hb); have NB397_398 := Aside0.mk ((by rw [hg]; exact Nat.ne_of_lt (blk_lt (bk_ BK397)) : gb397 ≠ gb398)); have NB398_397 := Aside0.mk ((by rw [hg]; exact Nat.ne_of_gt (blk_lt (bk_ BK397)) : gb398 ≠ gb397)); replace BK397 := Aside0.mk (blk_below (bk_ BK397) hb); clear hb hbox hg; have hnb20 := NB397_398.out; have hnc20 := NB398_397.out; have hcz21_0 := bc0_ BK397; have hcz21_1 := bc1_ BK397; have hcz21_2 := bc2_ BK397; have hcz21_3 := bc3_ BK397; have hcz21_4 := bc4_ BK397; have hfz21_0 := blk_frozen BK397.out 0; have hfz21_1 := blk_frozen BK397.out 1; have hfz21_2 := blk_frozen BK397.out 2; have hfz21_3 := blk_frozen BK397.out 3; have hfz21_4 := blk_frozen BK397.out 4; have hcz22_0 := bc0_ BK398; have hcz22_1 := bc1_ BK398; have hcz22_2 := bc2_ BK398; have hcz22_3 := bc3_ BK398; have hcz22_4 := bc4_ BK398; have hfz22_0 := blk_frozen BK398.out 0; have hfz22_1 := blk_frozen BK398.out 1; have hfz22_2 := blk_frozen BK398.out 2; have hfz22_3 := blk_frozen BK398.out 3; have hfz22_4 := blk_frozen BK398.out 4))
   go_ret
   exact ⟨rfe_, bl_⟩
 have c12b0 : (a0_4.toList == a1_4.toList) = true := beq_iff_eq.mpr c12
 have c12b1 : (a0_4.toList != a1_4.toList) = false := bne_eq_false_iff_eq.mpr c12
 clear c12
 obtain rfl := Option.some.inj H
 go_enter Try.func60, Try.ntmps60
 go_wp2_with (first | ((with_reducible refine gate_dst (N := 2) rfl ?_); refine be_ 2 68 #[.string a0_0, .bool a0_1, .string a0_2, .string a0_3, .string a0_4] ?_; intro gb397 hg w13 hbox hb; have BK397 := Aside0.mk (hbox); have GW397 := Aside0.mk ((gs_ hg : w.heap.size ≤ gb397)); have GE397 := Aside0.mk ((gs_ hg : w.heap.size ≤ gb397)); replace HB := Aside0.mk (below_step (bl_) hb); clear hb hbox hg) | ((with_reducible refine gate_dst (N := 3) rfl ?_); refine be_ 3 68 #[.string a1_0, .bool a1_1, .string a1_2, .string a1_3, .string a1_4] ?_; intro gb398 hg w14 hbox hb; have BK398 := Aside0.mk (hbox); have GW398 := Aside0.mk ((gs_ hg : w.heap.size ≤ gb398)); have GE398 := Aside0.mk ((gs_ hg : w.heap.size ≤ gb398)); replace HB := Aside0.mk (below_step (bl_) hb); have NB397_398 := Aside0.mk ((by rw [hg]; exact Nat.ne_of_lt (blk_lt (bk_ BK397)) : gb397 ≠ gb398)); have NB398_397 := Aside0.mk ((by rw [hg]; exact Nat.ne_of_gt (blk_lt (bk_ BK397)) : gb398 ≠ gb397)); replace BK397 := Aside0.mk (blk_below (bk_ BK397) hb); clear hb hbox hg; have hnb15 := NB397_398.out; have hnc15 := NB398_397.out; have hcz16_0 := bc0_ BK397; have hcz16_1 := bc1_ BK397; have hcz16_2 := bc2_ BK397; have hcz16_3 := bc3_ BK397; have hcz16_4 := bc4_ BK397; have hfz16_0 := blk_frozen BK397.out 0; have hfz16_1 := blk_frozen BK397.out 1; have hfz16_2 := blk_frozen BK397.out 2; have hfz16_3 := blk_frozen BK397.out 3; have hfz16_4 := blk_frozen BK397.out 4; have hcz17_0 := bc0_ BK398; have hcz17_1 := bc1_ BK398; have hcz17_2 := bc2_ BK398; have hcz17_3 := bc3_ BK398; have hcz17_4 := bc4_ BK398; have hfz17_0 := blk_frozen BK398.out 0; have hfz17_1 := blk_frozen BK398.out 1; have hfz17_2 := blk_frozen BK398.out 2; have hfz17_3 := blk_frozen BK398.out 3; have hfz17_4 := blk_frozen BK398.out 4))
 go_ret
 exact ⟨rfe_, bl_⟩

/-! ### laws_eqAffixS: function 34 -/
def laws_eqAffixS.l0 : Nat → List (S68) → List (S68) → Int → Option (Bool)
 | 0, _, _, _ => none
 | k + 1, x0, x1, x5 => if x5 < (x0.length : Int) then (if 0 ≤ x5 then (if x5 < (x1.length : Int) then ((laws_eqAffix.f ((rd_T68 x0 x5).f0) ((rd_T68 x0 x5).f1) ((rd_T68 x0 x5).f2) ((rd_T68 x0 x5).f3) ((rd_T68 x0 x5).f4) ((rd_T68 x1 x5).f0) ((rd_T68 x1 x5).f1) ((rd_T68 x1 x5).f2) ((rd_T68 x1 x5).f3) ((rd_T68 x1 x5).f4)).bind fun t401 => (if t401 = true then (laws_eqAffixS.l0 k x0 x1 (wrap64 (x5 + 1))) else (some false))) else (none)) else (none)) else (some true)
def laws_eqAffixS.f (k : Nat) (l0 : List (S68)) (l1 : List (S68)) : Option (Bool) := if (l0.length : Int) = (l1.length : Int) then (laws_eqAffixS.l0 k l0 l1 0) else (some false)
theorem laws_eqAffixS.mono_l : ∀ k, (∀ y0 y1 y2, LeO (laws_eqAffixS.l0 k y0 y1 y2) (laws_eqAffixS.l0 (k + 1) y0 y1 y2))
 | 0 => fun _ _ _ r h => by simp [laws_eqAffixS.l0] at h
 | k + 1 => by
  have ih0 := laws_eqAffixS.mono_l k
  · intro y0 y1 y2
    unfold laws_eqAffixS.l0
    exact mn_
theorem laws_eqAffixS.mono : ∀ a0 a1 k, LeO (laws_eqAffixS.f k a0 a1) (laws_eqAffixS.f (k + 1) a0 a1) := by
 intro a0 a1 k
 have ih0 := laws_eqAffixS.mono_l k
 unfold laws_eqAffixS.f
 exact mn_
def laws_eqAffixS.T6 : Bool × List (List Nat × List Nat) := (true, [([], []), ([], []), ([0, 1], [0, 1]), ([2], [2]), ([], []), ([], []), ([4, 5], [4, 5]), ([6], [6]), ([3, 7], [3, 7]), ([8], [8])])
def laws_eqAffixS.B6 : List Nat := [0, 0, 3, 7, 0, 0, 48, 112, 255, 511]
theorem laws_eqAffixS.tab6 : rtab .any (opsOf Try.f34 6) = laws_eqAffixS.T6 := by kernel_rfl
theorem laws_eqAffixS.bits6 : waitsOk laws_eqAffixS.T6.2 laws_eqAffixS.B6 = true := by kernel_rfl
theorem laws_eqAffixS.calls (k : Nat) (A0 : Option Addr) (c0 : Nat) (l0 : List (S68)) (A1 : Option Addr) (c1 : Nat) (l1 : List (S68)) (r : Bool) (w : World) (hr0 : Kd.C k68 w A0 l0.length l0) (hc0 : l0.length ≤ c0) (hr1 : Kd.C k68 w A1 l1.length l1) (hc1 : l1.length ≤ c1) (h : laws_eqAffixS.f k l0 l1 = some r) :
 Calls Try.prog 34 #[.slice A0 l0.length c0, .slice A1 l1.length c1] w fun e w' => e = .returned (.bool r) ∧ Below w.heap.size w w' := by
 have hu68 := Try.underlying68
 have HR0 := Aside0.mk hr0
 have HC0 := Aside0.mk hc0
 clear hr0 hc0
 have HR1 := Aside0.mk hr1
 have HC1 := Aside0.mk hc1
 clear hr1 hc1
 have HB := Aside0.mk (Below.refl w.heap.size w)
 unfold laws_eqAffixS.f at h; have H := h; clear h
 replace H := iucc_ H; rcases H with ⟨c3, H⟩ | ⟨c3, H⟩
 · have c3b0 : ((l0.length : Int) == (l1.length : Int)) = false := beq_eq_false_iff_ne.mpr c3
   have c3b1 : ((l0.length : Int) != (l1.length : Int)) = true := bne_iff_ne.mpr c3
   have c3b2 : (l0.length == l1.length) = false := by first | simpa using c3 | (simp at c3 ⊢; omega)
   obtain rfl := Option.some.inj H
   go_enter Try.func34, Try.ntmps34
   go_wp2
   go_ret
   exact ⟨rfe_, bl_⟩
 have c3b0 : ((l0.length : Int) == (l1.length : Int)) = true := beq_iff_eq.mpr c3
 have c3b1 : ((l0.length : Int) != (l1.length : Int)) = false := bne_eq_false_iff_eq.mpr c3
 have c3b2 : (l0.length == l1.length) = true := by first | simpa using c3 | (simp at c3 ⊢; omega)
 clear c3
 have H' := Aside0.mk H; clear H
 go_enter Try.func34, Try.ntmps34
 go_wp2
 go_loopg [5] k (fun kq v5 w' => ∃ (x5_1 : Int), v5 = .int .i64 x5_1 ∧ Aside0 (laws_eqAffixS.l0 kq l0 l1 x5_1 = some r) ∧ Aside0 (kq ≤ k) ∧ Aside0 (Below w.heap.size w w'))
 case atStart => exact ⟨(0), rf_, H', ⟨Nat.le_refl _⟩, ⟨bl_⟩⟩
 case round =>
  clear H'
  (try clear c1);(try clear p2);(try clear c3);(try clear c3b0);(try clear c3b1);(try clear c3b2)
  obtain ⟨x5_1, rfl, HA, HK1, HB⟩ := hrel
  cases gk with
  | zero => exact absurd HA.out (by simp [laws_eqAffixS.l0])
  | succ k1 =>
   have H := HA.out
   clear HA
   simp only [laws_eqAffixS.l0] at H
   replace H := iudd_ H; rcases H with ⟨c4b0, H⟩ | ⟨c4b0, H⟩
   · obtain rfl := Option.some.inj H
     go_wp2
     go_ret
     exact ⟨rfe_, bl_⟩
   replace H := ind_ H; obtain ⟨c5b0, H⟩ := H
   replace H := ind_ H; obtain ⟨c6b0, H⟩ := H
   replace H := Option.bind_eq_some_iff.mp H
   obtain ⟨t401, A70, H⟩ := H; try dsimp only at H
   have A7 := Aside0.mk A70
   clear A70
   replace H := iub_ H; rcases H with ⟨rfl, H⟩ | ⟨rfl, H⟩
   · obtain rfl := Option.some.inj H
     try go_wp2
     replace HB := Aside0.mk (below_drew1 HB.out)
     have p399 : 0 ≤ (x5_1 : Int) := od_
     have q399 : x5_1 < (l0.length : Int) := od_
     obtain ⟨ad399, e399, hx399_0, hx399_1, hx399_2, hx399_3, hx399_4⟩ := at_T68 HR0.out x5_1 p399 q399
     have hw399_4 := hx399_4
     have hw399_3 := hx399_3
     have hw399_2 := hx399_2
     have hw399_1 := hx399_1
     have hw399_0 := hx399_0
     cases e399
     replace hx399_0 := hc_ HB hx399_0
     replace hx399_1 := hc_ HB hx399_1
     replace hx399_2 := hc_ HB hx399_2
     replace hx399_3 := hc_ HB hx399_3
     replace hx399_4 := hc_ HB hx399_4
     replace p399 := eq_true p399; replace q399 := eq_true q399
     have p400 : 0 ≤ (x5_1 : Int) := od_
     have q400 : x5_1 < (l1.length : Int) := od_
     obtain ⟨ad400, e400, hx400_0, hx400_1, hx400_2, hx400_3, hx400_4⟩ := at_T68 HR1.out x5_1 p400 q400
     have hw400_4 := hx400_4
     have hw400_3 := hx400_3
     have hw400_2 := hx400_2
     have hw400_1 := hx400_1
     have hw400_0 := hx400_0
     cases e400
     replace hx400_0 := hc_ HB hx400_0
     replace hx400_1 := hc_ HB hx400_1
     replace hx400_2 := hc_ HB hx400_2
     replace hx400_3 := hc_ HB hx400_3
     replace hx400_4 := hc_ HB hx400_4
     replace p400 := eq_true p400; replace q400 := eq_true q400
     refine start_ (n := 10) (S := fun w' => w'.cell? (ad399.add ((x5_1).toNat * 5)) = some (.string ((rd_T68 l0 x5_1).f0)) ∧ w'.cell? ⟨(ad399.add ((x5_1).toNat * 5)).block, (ad399.add ((x5_1).toNat * 5)).off + 1, none⟩ = some (.bool ((rd_T68 l0 x5_1).f1)) ∧ w'.cell? ⟨(ad399.add ((x5_1).toNat * 5)).block, (ad399.add ((x5_1).toNat * 5)).off + 2, none⟩ = some (.string ((rd_T68 l0 x5_1).f2)) ∧ w'.cell? ⟨(ad399.add ((x5_1).toNat * 5)).block, (ad399.add ((x5_1).toNat * 5)).off + 3, none⟩ = some (.string ((rd_T68 l0 x5_1).f3)) ∧ w'.cell? ⟨(ad399.add ((x5_1).toNat * 5)).block, (ad399.add ((x5_1).toNat * 5)).off + 4, none⟩ = some (.string ((rd_T68 l0 x5_1).f4)) ∧ w'.cell? (ad400.add ((x5_1).toNat * 5)) = some (.string ((rd_T68 l1 x5_1).f0)) ∧ w'.cell? ⟨(ad400.add ((x5_1).toNat * 5)).block, (ad400.add ((x5_1).toNat * 5)).off + 1, none⟩ = some (.bool ((rd_T68 l1 x5_1).f1)) ∧ w'.cell? ⟨(ad400.add ((x5_1).toNat * 5)).block, (ad400.add ((x5_1).toNat * 5)).off + 2, none⟩ = some (.string ((rd_T68 l1 x5_1).f2)) ∧ w'.cell? ⟨(ad400.add ((x5_1).toNat * 5)).block, (ad400.add ((x5_1).toNat * 5)).off + 3, none⟩ = some (.string ((rd_T68 l1 x5_1).f3)) ∧ w'.cell? ⟨(ad400.add ((x5_1).toNat * 5)).block, (ad400.add ((x5_1).toNat * 5)).off + 4, none⟩ = some (.string ((rd_T68 l1 x5_1).f4))) (ds := []) (bm 10 0) (by kernel_rfl) rfl rfl ⟨((HB.out.cell (World.block_lt_of_cell? w _ hw399_0)).trans hw399_0), ((HB.out.cell (World.block_lt_of_cell? w _ hw399_1)).trans hw399_1), ((HB.out.cell (World.block_lt_of_cell? w _ hw399_2)).trans hw399_2), ((HB.out.cell (World.block_lt_of_cell? w _ hw399_3)).trans hw399_3), ((HB.out.cell (World.block_lt_of_cell? w _ hw399_4)).trans hw399_4), ((HB.out.cell (World.block_lt_of_cell? w _ hw400_0)).trans hw400_0), ((HB.out.cell (World.block_lt_of_cell? w _ hw400_1)).trans hw400_1), ((HB.out.cell (World.block_lt_of_cell? w _ hw400_2)).trans hw400_2), ((HB.out.cell (World.block_lt_of_cell? w _ hw400_3)).trans hw400_3), ((HB.out.cell (World.block_lt_of_cell? w _ hw400_4)).trans hw400_4)⟩ (fun hHeld => ?_); refine with_tabW laws_eqAffixS.tab6 laws_eqAffixS.bits6 (fun HT_ HW_ => ?_)
     generalize wr.drew = w11 at HB hx399_0 hx399_1 hx399_2 hx399_3 hx399_4 hx400_0 hx400_1 hx400_2 hx400_3 hx400_4 hHeld ⊢
     refine sp_ 0 (some 17) (bm 10 1) HT_ (h := ?_)
     refine sp_ 1 (some 18) (bm 10 3) HT_ (h := ?_)
     refine sp_ 2 (some 19) (bm 10 7) HT_ (h := ?_)
     refine sp_ 4 (some 21) (bm 10 23) HT_ (h := ?_)
     refine sp_ 5 (some 22) (bm 10 55) HT_ (h := ?_)
     refine sp_ 6 (some 23) (bm 10 119) HT_ (h := ?_)
     refine sr_ 3 (some 20) (bm 10 127) HT_ HW_ hHeld (h := ?_)
     refine sr_ 7 (some 24) (bm 10 255) HT_ HW_ hHeld (h := ?_)
     refine sn_ 8 (some 25) (bm 10 511) HT_ (fun K hK => ?_)
     refine goes_ Try.func60 (by kernel_rfl) rfl #[.agg #[.string ((rd_T68 l0 x5_1).f0), .bool ((rd_T68 l0 x5_1).f1), .string ((rd_T68 l0 x5_1).f2), .string ((rd_T68 l0 x5_1).f3), .string ((rd_T68 l0 x5_1).f4)], .agg #[.string ((rd_T68 l1 x5_1).f0), .bool ((rd_T68 l1 x5_1).f1), .string ((rd_T68 l1 x5_1).f2), .string ((rd_T68 l1 x5_1).f3), .string ((rd_T68 l1 x5_1).f4)]] (by rfl) rfl rfl (by (try simp only [List.map_toArray, List.map_cons, List.map_nil]); first | done | rfl | (simp only [List.length_drop, List.length_take]; rfl)) ?_
     with_reducible refine (laws_eqAffix.calls ((rd_T68 l0 x5_1).f0) ((rd_T68 l0 x5_1).f1) ((rd_T68 l0 x5_1).f2) ((rd_T68 l0 x5_1).f3) ((rd_T68 l0 x5_1).f4) ((rd_T68 l1 x5_1).f0) ((rd_T68 l1 x5_1).f1) ((rd_T68 l1 x5_1).f2) ((rd_T68 l1 x5_1).f3) ((rd_T68 l1 x5_1).f4) false _ A7.out).mono ?_
     rintro e w12 ⟨rfl, hb⟩
     refine ⟨_, rfl, ?_⟩
     replace HB := Aside0.mk (below_step (bl_) hb)
     (try clear hb)
     (try clear hb2)
     (try clear hk)
     (try clear hi)
     refine hK.out _ _ ⟨((HB.out.cell (World.block_lt_of_cell? w _ hw399_0)).trans hw399_0), ((HB.out.cell (World.block_lt_of_cell? w _ hw399_1)).trans hw399_1), ((HB.out.cell (World.block_lt_of_cell? w _ hw399_2)).trans hw399_2), ((HB.out.cell (World.block_lt_of_cell? w _ hw399_3)).trans hw399_3), ((HB.out.cell (World.block_lt_of_cell? w _ hw399_4)).trans hw399_4), ((HB.out.cell (World.block_lt_of_cell? w _ hw400_0)).trans hw400_0), ((HB.out.cell (World.block_lt_of_cell? w _ hw400_1)).trans hw400_1), ((HB.out.cell (World.block_lt_of_cell? w _ hw400_2)).trans hw400_2), ((HB.out.cell (World.block_lt_of_cell? w _ hw400_3)).trans hw400_3), ((HB.out.cell (World.block_lt_of_cell? w _ hw400_4)).trans hw400_4)⟩ (fun hHeld => ?_)
     clear hK K
     refine nm_ ?_
     refine sp_ 9 (some 26) (bm 10 1023) HT_ (h := ?_)
     refine done_ (done_of HT_.out (by kernel_rfl)) ?_
     try go_wp2
     go_ret
     exact ⟨rfe_, bl_⟩
   have H' := Aside0.mk H; clear H
   try go_wp2
   replace HB := Aside0.mk (below_drew1 HB.out)
   have p399 : 0 ≤ (x5_1 : Int) := od_
   have q399 : x5_1 < (l0.length : Int) := od_
   obtain ⟨ad399, e399, hx399_0, hx399_1, hx399_2, hx399_3, hx399_4⟩ := at_T68 HR0.out x5_1 p399 q399
   have hw399_4 := hx399_4
   have hw399_3 := hx399_3
   have hw399_2 := hx399_2
   have hw399_1 := hx399_1
   have hw399_0 := hx399_0
   cases e399
   replace hx399_0 := hc_ HB hx399_0
   replace hx399_1 := hc_ HB hx399_1
   replace hx399_2 := hc_ HB hx399_2
   replace hx399_3 := hc_ HB hx399_3
   replace hx399_4 := hc_ HB hx399_4
   replace p399 := eq_true p399; replace q399 := eq_true q399
   have p400 : 0 ≤ (x5_1 : Int) := od_
   have q400 : x5_1 < (l1.length : Int) := od_
   obtain ⟨ad400, e400, hx400_0, hx400_1, hx400_2, hx400_3, hx400_4⟩ := at_T68 HR1.out x5_1 p400 q400
   have hw400_4 := hx400_4
   have hw400_3 := hx400_3
   have hw400_2 := hx400_2
   have hw400_1 := hx400_1
   have hw400_0 := hx400_0
   cases e400
   replace hx400_0 := hc_ HB hx400_0
   replace hx400_1 := hc_ HB hx400_1
   replace hx400_2 := hc_ HB hx400_2
   replace hx400_3 := hc_ HB hx400_3
   replace hx400_4 := hc_ HB hx400_4
   replace p400 := eq_true p400; replace q400 := eq_true q400
   refine start_ (n := 10) (S := fun w' => w'.cell? (ad399.add ((x5_1).toNat * 5)) = some (.string ((rd_T68 l0 x5_1).f0)) ∧ w'.cell? ⟨(ad399.add ((x5_1).toNat * 5)).block, (ad399.add ((x5_1).toNat * 5)).off + 1, none⟩ = some (.bool ((rd_T68 l0 x5_1).f1)) ∧ w'.cell? ⟨(ad399.add ((x5_1).toNat * 5)).block, (ad399.add ((x5_1).toNat * 5)).off + 2, none⟩ = some (.string ((rd_T68 l0 x5_1).f2)) ∧ w'.cell? ⟨(ad399.add ((x5_1).toNat * 5)).block, (ad399.add ((x5_1).toNat * 5)).off + 3, none⟩ = some (.string ((rd_T68 l0 x5_1).f3)) ∧ w'.cell? ⟨(ad399.add ((x5_1).toNat * 5)).block, (ad399.add ((x5_1).toNat * 5)).off + 4, none⟩ = some (.string ((rd_T68 l0 x5_1).f4)) ∧ w'.cell? (ad400.add ((x5_1).toNat * 5)) = some (.string ((rd_T68 l1 x5_1).f0)) ∧ w'.cell? ⟨(ad400.add ((x5_1).toNat * 5)).block, (ad400.add ((x5_1).toNat * 5)).off + 1, none⟩ = some (.bool ((rd_T68 l1 x5_1).f1)) ∧ w'.cell? ⟨(ad400.add ((x5_1).toNat * 5)).block, (ad400.add ((x5_1).toNat * 5)).off + 2, none⟩ = some (.string ((rd_T68 l1 x5_1).f2)) ∧ w'.cell? ⟨(ad400.add ((x5_1).toNat * 5)).block, (ad400.add ((x5_1).toNat * 5)).off + 3, none⟩ = some (.string ((rd_T68 l1 x5_1).f3)) ∧ w'.cell? ⟨(ad400.add ((x5_1).toNat * 5)).block, (ad400.add ((x5_1).toNat * 5)).off + 4, none⟩ = some (.string ((rd_T68 l1 x5_1).f4))) (ds := []) (bm 10 0) (by kernel_rfl) rfl rfl ⟨((HB.out.cell (World.block_lt_of_cell? w _ hw399_0)).trans hw399_0), ((HB.out.cell (World.block_lt_of_cell? w _ hw399_1)).trans hw399_1), ((HB.out.cell (World.block_lt_of_cell? w _ hw399_2)).trans hw399_2), ((HB.out.cell (World.block_lt_of_cell? w _ hw399_3)).trans hw399_3), ((HB.out.cell (World.block_lt_of_cell? w _ hw399_4)).trans hw399_4), ((HB.out.cell (World.block_lt_of_cell? w _ hw400_0)).trans hw400_0), ((HB.out.cell (World.block_lt_of_cell? w _ hw400_1)).trans hw400_1), ((HB.out.cell (World.block_lt_of_cell? w _ hw400_2)).trans hw400_2), ((HB.out.cell (World.block_lt_of_cell? w _ hw400_3)).trans hw400_3), ((HB.out.cell (World.block_lt_of_cell? w _ hw400_4)).trans hw400_4)⟩ (fun hHeld => ?_); refine with_tabW laws_eqAffixS.tab6 laws_eqAffixS.bits6 (fun HT_ HW_ => ?_)
   generalize wr.drew = w9 at HB hx399_0 hx399_1 hx399_2 hx399_3 hx399_4 hx400_0 hx400_1 hx400_2 hx400_3 hx400_4 hHeld ⊢
   refine sp_ 0 (some 17) (bm 10 1) HT_ (h := ?_)
   refine sp_ 1 (some 18) (bm 10 3) HT_ (h := ?_)
   refine sp_ 2 (some 19) (bm 10 7) HT_ (h := ?_)
   refine sp_ 4 (some 21) (bm 10 23) HT_ (h := ?_)
   refine sp_ 5 (some 22) (bm 10 55) HT_ (h := ?_)
   refine sp_ 6 (some 23) (bm 10 119) HT_ (h := ?_)
   refine sr_ 3 (some 20) (bm 10 127) HT_ HW_ hHeld (h := ?_)
   refine sr_ 7 (some 24) (bm 10 255) HT_ HW_ hHeld (h := ?_)
   refine sn_ 8 (some 25) (bm 10 511) HT_ (fun K hK => ?_)
   refine goes_ Try.func60 (by kernel_rfl) rfl #[.agg #[.string ((rd_T68 l0 x5_1).f0), .bool ((rd_T68 l0 x5_1).f1), .string ((rd_T68 l0 x5_1).f2), .string ((rd_T68 l0 x5_1).f3), .string ((rd_T68 l0 x5_1).f4)], .agg #[.string ((rd_T68 l1 x5_1).f0), .bool ((rd_T68 l1 x5_1).f1), .string ((rd_T68 l1 x5_1).f2), .string ((rd_T68 l1 x5_1).f3), .string ((rd_T68 l1 x5_1).f4)]] (by rfl) rfl rfl (by (try simp only [List.map_toArray, List.map_cons, List.map_nil]); first | done | rfl | (simp only [List.length_drop, List.length_take]; rfl)) ?_
   with_reducible refine (laws_eqAffix.calls ((rd_T68 l0 x5_1).f0) ((rd_T68 l0 x5_1).f1) ((rd_T68 l0 x5_1).f2) ((rd_T68 l0 x5_1).f3) ((rd_T68 l0 x5_1).f4) ((rd_T68 l1 x5_1).f0) ((rd_T68 l1 x5_1).f1) ((rd_T68 l1 x5_1).f2) ((rd_T68 l1 x5_1).f3) ((rd_T68 l1 x5_1).f4) true _ A7.out).mono ?_
   rintro e w10 ⟨rfl, hb⟩
   refine ⟨_, rfl, ?_⟩
   replace HB := Aside0.mk (below_step (bl_) hb)
   (try clear hb)
   (try clear hb2)
   (try clear hk)
   (try clear hi)
   refine hK.out _ _ ⟨((HB.out.cell (World.block_lt_of_cell? w _ hw399_0)).trans hw399_0), ((HB.out.cell (World.block_lt_of_cell? w _ hw399_1)).trans hw399_1), ((HB.out.cell (World.block_lt_of_cell? w _ hw399_2)).trans hw399_2), ((HB.out.cell (World.block_lt_of_cell? w _ hw399_3)).trans hw399_3), ((HB.out.cell (World.block_lt_of_cell? w _ hw399_4)).trans hw399_4), ((HB.out.cell (World.block_lt_of_cell? w _ hw400_0)).trans hw400_0), ((HB.out.cell (World.block_lt_of_cell? w _ hw400_1)).trans hw400_1), ((HB.out.cell (World.block_lt_of_cell? w _ hw400_2)).trans hw400_2), ((HB.out.cell (World.block_lt_of_cell? w _ hw400_3)).trans hw400_3), ((HB.out.cell (World.block_lt_of_cell? w _ hw400_4)).trans hw400_4)⟩ (fun hHeld => ?_)
   clear hK K
   refine nm_ ?_
   refine sp_ 9 (some 26) (bm 10 1023) HT_ (h := ?_)
   refine done_ (done_of HT_.out (by kernel_rfl)) ?_
   try go_wp2
   go_roundg k1
   case measure => have := HK1.out; omega
   case rel => exact ⟨(wrap64 (x5_1 + 1)), rf_, H', ⟨by have := HK1.out; omega⟩, ⟨bl_⟩⟩

/-! ### laws_eqEntry: function 61 -/
def laws_eqEntry.f (a0_0 : ByteArray) (a0_1 : ByteArray) (a1_0 : ByteArray) (a1_1 : ByteArray) : Option (Bool) := if a0_0.toList = a1_0.toList then (if a0_1.toList = a1_1.toList then (some true) else (some false)) else (some false)
theorem laws_eqEntry.calls (a0_0 : ByteArray) (a0_1 : ByteArray) (a1_0 : ByteArray) (a1_1 : ByteArray) (r : Bool) (w : World) (h : laws_eqEntry.f a0_0 a0_1 a1_0 a1_1 = some r) :
 Calls Try.prog 61 #[.agg #[.string a0_0, .string a0_1], .agg #[.string a1_0, .string a1_1]] w fun e w' => e = .returned (.bool r) ∧ Below w.heap.size w w' := by
 have hu73 := Try.underlying73
 have HB := Aside0.mk (Below.refl w.heap.size w)
 unfold laws_eqEntry.f at h; have H := h; clear h
 replace H := iucc_ H; rcases H with ⟨c3, H⟩ | ⟨c3, H⟩
 · have c3b0 : (a0_0.toList == a1_0.toList) = false := beq_eq_false_iff_ne.mpr c3
   have c3b1 : (a0_0.toList != a1_0.toList) = true := bne_iff_ne.mpr c3
   obtain rfl := Option.some.inj H
   go_enter Try.func61, Try.ntmps61
   go_wp2_with (first | ((with_reducible refine gate_dst (N := 2) rfl ?_); refine be_ 2 73 #[.string a0_0, .string a0_1] ?_; intro gb402 hg w15 hbox hb; have BK402 := Aside0.mk (hbox); have GW402 := Aside0.mk ((gs_ hg : w.heap.size ≤ gb402)); have GE402 := Aside0.mk ((gs_ hg : w.heap.size ≤ gb402)); replace HB := Aside0.mk (below_step (bl_) hb); clear hb hbox hg) | ((with_reducible refine gate_dst (N := 3) rfl ?_); refine be_ 3 73 #[.string a1_0, .string a1_1] ?_; intro gb403 hg w16 hbox hb; have BK403 := Aside0.mk (hbox); have GW403 := Aside0.mk ((gs_ hg : w.heap.size ≤ gb403)); have GE403 := Aside0.mk ((gs_ hg : w.heap.size ≤ gb403)); replace HB := Aside0.mk (below_step (bl_) hb); have NB402_403 := Aside0.mk ((by rw [hg]; exact Nat.ne_of_lt (blk_lt (bk_ BK402)) : gb402 ≠ gb403)); have NB403_402 := Aside0.mk ((by rw [hg]; exact Nat.ne_of_gt (blk_lt (bk_ BK402)) : gb403 ≠ gb402)); replace BK402 := Aside0.mk (blk_below (bk_ BK402) hb); clear hb hbox hg; have hnb17 := NB402_403.out; have hnc17 := NB403_402.out; have hcz18_0 := bc0_ BK402; have hcz18_1 := bc1_ BK402; have hfz18_0 := blk_frozen BK402.out 0; have hfz18_1 := blk_frozen BK402.out 1; have hcz19_0 := bc0_ BK403; have hcz19_1 := bc1_ BK403; have hfz19_0 := blk_frozen BK403.out 0; have hfz19_1 := blk_frozen BK403.out 1))
   go_ret
   exact ⟨rfe_, bl_⟩
 have c3b0 : (a0_0.toList == a1_0.toList) = true := beq_iff_eq.mpr c3
 have c3b1 : (a0_0.toList != a1_0.toList) = false := bne_eq_false_iff_eq.mpr c3
 clear c3
 replace H := itcc_ H; rcases H with ⟨c4, H⟩ | ⟨c4, H⟩
 · have c4b0 : (a0_1.toList == a1_1.toList) = true := beq_iff_eq.mpr c4
   have c4b1 : (a0_1.toList != a1_1.toList) = false := bne_eq_false_iff_eq.mpr c4
   clear c4
   obtain rfl := Option.some.inj H
   go_enter Try.func61, Try.ntmps61
   go_wp2_with (first | ((with_reducible refine gate_dst (N := 2) rfl ?_); refine be_ 2 73 #[.string a0_0, .string a0_1] ?_; intro gb402 hg w5 hbox hb; have BK402 := Aside0.mk (hbox); have GW402 := Aside0.mk ((gs_ hg : w.heap.size ≤ gb402)); have GE402 := Aside0.mk ((gs_ hg : w.heap.size ≤ gb402)); replace HB := Aside0.mk (below_step (bl_) hb); clear hb hbox hg) | ((with_reducible refine gate_dst (N := 3) rfl ?_); refine be_ 3 73 #[.string a1_0, .string a1_1] ?_; intro gb403 hg w6 hbox hb; have BK403 := Aside0.mk (hbox); have GW403 := Aside0.mk ((gs_ hg : w.heap.size ≤ gb403)); have GE403 := Aside0.mk ((gs_ hg : w.heap.size ≤ gb403)); replace HB := Aside0.mk (below_step (bl_) hb); have NB402_403 := Aside0.mk ((by rw [hg]; exact Nat.ne_of_lt (blk_lt (bk_ BK402)) : gb402 ≠ gb403)); have NB403_402 := Aside0.mk ((by rw [hg]; exact Nat.ne_of_gt (blk_lt (bk_ BK402)) : gb403 ≠ gb402)); replace BK402 := Aside0.mk (blk_below (bk_ BK402) hb); clear hb hbox hg; have hnb7 := NB402_403.out; have hnc7 := NB403_402.out; have hcz8_0 := bc0_ BK402; have hcz8_1 := bc1_ BK402; have hfz8_0 := blk_frozen BK402.out 0; have hfz8_1 := blk_frozen BK402.out 1; have hcz9_0 := bc0_ BK403; have hcz9_1 := bc1_ BK403; have hfz9_0 := blk_frozen BK403.out 0; have hfz9_1 := blk_frozen BK403.out 1))
   go_ret
   exact ⟨rfe_, bl_⟩
 have c4b0 : (a0_1.toList == a1_1.toList) = false := beq_eq_false_iff_ne.mpr c4
 have c4b1 : (a0_1.toList != a1_1.toList) = true := bne_iff_ne.mpr c4
 obtain rfl := Option.some.inj H
 go_enter Try.func61, Try.ntmps61
 go_wp2_with (first | ((with_reducible refine gate_dst (N := 2) rfl ?_); refine be_ 2 73 #[.string a0_0, .string a0_1] ?_; intro gb402 hg w10 hbox hb; have BK402 := Aside0.mk (hbox); have GW402 := Aside0.mk ((gs_ hg : w.heap.size ≤ gb402)); have GE402 := Aside0.mk ((gs_ hg : w.heap.size ≤ gb402)); replace HB := Aside0.mk (below_step (bl_) hb); clear hb hbox hg) | ((with_reducible refine gate_dst (N := 3) rfl ?_); refine be_ 3 73 #[.string a1_0, .string a1_1] ?_; intro gb403 hg w11 hbox hb; have BK403 := Aside0.mk (hbox); have GW403 := Aside0.mk ((gs_ hg : w.heap.size ≤ gb403)); have GE403 := Aside0.mk ((gs_ hg : w.heap.size ≤ gb403)); replace HB := Aside0.mk (below_step (bl_) hb); have NB402_403 := Aside0.mk ((by rw [hg]; exact Nat.ne_of_lt (blk_lt (bk_ BK402)) : gb402 ≠ gb403)); have NB403_402 := Aside0.mk ((by rw [hg]; exact Nat.ne_of_gt (blk_lt (bk_ BK402)) : gb403 ≠ gb402)); replace BK402 := Aside0.mk (blk_below (bk_ BK402) hb); clear hb hbox hg; have hnb12 := NB402_403.out; have hnc12 := NB403_402.out; have hcz13_0 := bc0_ BK402; have hcz13_1 := bc1_ BK402; have hfz13_0 := blk_frozen BK402.out 0; have hfz13_1 := blk_frozen BK402.out 1; have hcz14_0 := bc0_ BK403; have hcz14_1 := bc1_ BK403; have hfz14_0 := blk_frozen BK403.out 0; have hfz14_1 := blk_frozen BK403.out 1))
 go_ret
 exact ⟨rfe_, bl_⟩

end Go.Proofs.Ytbopiacjioedeaa.P
