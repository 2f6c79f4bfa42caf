-- Written by a program of this session (wip/gen/gen.py) out of Lean's print of the loaded program; Lean checks it.
import Derived.Test.YtbopiacjioedeaaP0
import Derived.Test.YtbopiacjioedeaaSq2
import Derived.Test.YtbopiacjioedeaaP2
namespace Go.Proofs.Ytbopiacjioedeaa.P
open Go.RowKit Go.Proofs.YtbopiacjioedeaaW.PrintWords Go.Proofs.YtbopiacjioedeaaW.PrintLast Go.Proofs.YtbopiacjioedeaaW.PrintMore
attribute [local go_sem] max2_int min2_int max_two min_two max_three min_three max_four min_four IntKind.wrap_u8 IntKind.wrap_u32 w64_256 w64_u32
set_option maxHeartbeats 8000000
set_option maxRecDepth 100000
set_option linter.unusedVariables false
set_option linter.unusedSimpArgs false

/-! ### impl_affixesOk: function 43 -/
def impl_affixesOk.l0 : Nat → List (S68) → List (S68) → Int → Int → Option (Bool)
 | 0, _, _, _, _ => none
 | k + 1, x0, x5, x6, x7 => if x7 < x6 then (if 0 ≤ x7 then (if x7 < (x5.length : Int) then ((impl_AffixOk.f k ((rd_T68 x5 x7).f0) ((rd_T68 x5 x7).f1) ((rd_T68 x5 x7).f2) ((rd_T68 x5 x7).f3) ((rd_T68 x5 x7).f4)).bind fun t118 => (if t118 = true then (if x7 ≤ (x0.length : Int) then ((impl_Affix_67.f k (x0.take (x7 : Int).toNat) ((rd_T68 x5 x7).f0) ((rd_T68 x5 x7).f1) ((rd_T68 x5 x7).f2) ((rd_T68 x5 x7).f3) ((rd_T68 x5 x7).f4)).bind fun t123 => (if t123 = true then (some false) else (impl_affixesOk.l0 k x0 x5 x6 (wrap64 (x7 + 1))))) else (none)) else (some false))) else (none)) else (none)) else (some (decide ((x0.length : Int) ≤ 8)))
def impl_affixesOk.f (k : Nat) (l0 : List (S68)) : Option (Bool) := impl_affixesOk.l0 k l0 l0 (l0.length : Int) 0
theorem impl_affixesOk.mono_l : ∀ k, (∀ y0 y1 y2 y3, LeO (impl_affixesOk.l0 k y0 y1 y2 y3) (impl_affixesOk.l0 (k + 1) y0 y1 y2 y3))
 | 0 => fun _ _ _ _ r h => by simp [impl_affixesOk.l0] at h
 | k + 1 => by
  have ih0 := impl_affixesOk.mono_l k
  · intro y0 y1 y2 y3
    unfold impl_affixesOk.l0
    have m0 := @impl_AffixOk.mono
    have m1 := @impl_Affix_67.mono
    exact mn_
theorem impl_affixesOk.mono : ∀ a0 k, LeO (impl_affixesOk.f k a0) (impl_affixesOk.f (k + 1) a0) := by
 intro a0 k
 have ih0 := impl_affixesOk.mono_l k
 unfold impl_affixesOk.f
 have m0 := @impl_AffixOk.mono
 have m1 := @impl_Affix_67.mono
 exact mn_
def impl_affixesOk.T4 : Bool × List (List Nat × List Nat) := (true, [([], []), ([0], [0]), ([1], [1]), ([2, 1], [2]), ([3], [3]), ([3], [3]), ([4, 5, 3], [3, 4, 5]), ([3], [3]), ([6, 7, 3, 3], [3, 6, 7]), ([3, 8], [3, 8])])
def impl_affixesOk.B4 : List Nat := [0, 1, 3, 7, 15, 15, 63, 15, 255, 511]
theorem impl_affixesOk.tab4 : rtab .any (opsOf Try.f43 4) = impl_affixesOk.T4 := by kernel_rfl
theorem impl_affixesOk.bits4 : waitsOk impl_affixesOk.T4.2 impl_affixesOk.B4 = true := by kernel_rfl
theorem impl_affixesOk.calls (k : Nat) (A0 : Option Addr) (c0 : Nat) (l0 : List (S68)) (r : Bool) (w : World) (hr0 : Kd.C k68 w A0 l0.length l0) (hc0 : l0.length ≤ c0) (h : impl_affixesOk.f k l0 = some r) :
 Calls Try.prog 43 #[.slice A0 l0.length c0] w fun e w' => e = .returned (.bool r) ∧ Below w.heap.size w w' := by
 have hu68 := Try.underlying68
 have HR0 := Aside0.mk hr0
 have HC0 := Aside0.mk hc0
 clear hr0 hc0
 have HB := Aside0.mk (Below.refl w.heap.size w)
 unfold impl_affixesOk.f at h; have H := h; clear h
 have H' := Aside0.mk H; clear H
 go_enter Try.func43, Try.ntmps43
 go_wp2
 go_loopg [7] k (fun kq v7 w' => ∃ (x7_1 : Int), v7 = .int .i64 x7_1 ∧ Aside0 (impl_affixesOk.l0 kq l0 l0 (l0.length : Int) x7_1 = some r) ∧ Aside0 (kq ≤ k) ∧ Aside0 (Below w.heap.size w w'))
 case atStart => exact ⟨(0), rf_, H', ⟨Nat.le_refl _⟩, ⟨bl_⟩⟩
 case round =>
  clear H'
  obtain ⟨x7_1, rfl, HA, HK1, HB⟩ := hrel
  cases gk with
  | zero => exact absurd HA.out (by simp [impl_affixesOk.l0])
  | succ k1 =>
   have H := HA.out
   clear HA
   simp only [impl_affixesOk.l0] at H
   replace H := iudd_ H; rcases H with ⟨c2b0, H⟩ | ⟨c2b0, H⟩
   · obtain rfl := Option.some.inj H
     go_wp2
     go_ret
     exact ⟨rfe_, bl_⟩
   replace H := ind_ H; obtain ⟨c3b0, H⟩ := H
   replace H := ind_ H; obtain ⟨c4b0, H⟩ := H
   replace H := Option.bind_eq_some_iff.mp H
   obtain ⟨t118, A50, H⟩ := H; try dsimp only at H
   have A5 := Aside0.mk A50
   clear A50
   replace H := iub_ H; rcases H with ⟨rfl, H⟩ | ⟨rfl, H⟩
   · obtain rfl := Option.some.inj H
     have p116 : 0 ≤ (x7_1 : Int) := od_
     have q116 : x7_1 < (l0.length : Int) := od_
     obtain ⟨ad116, e116, hx116_0, hx116_1, hx116_2, hx116_3, hx116_4⟩ := at_T68 HR0.out x7_1 p116 q116
     cases e116
     replace hx116_0 := hc_ HB hx116_0
     replace hx116_1 := hc_ HB hx116_1
     replace hx116_2 := hc_ HB hx116_2
     replace hx116_3 := hc_ HB hx116_3
     replace hx116_4 := hc_ HB hx116_4
     replace p116 := eq_true p116; replace q116 := eq_true q116
     try go_wp2_with (first | ((with_reducible refine gate_dst (N := 4) rfl ?_); refine be_ 4 68 #[.string (⟨#[]⟩ : ByteArray), .bool false, .string (⟨#[]⟩ : ByteArray), .string (⟨#[]⟩ : ByteArray), .string (⟨#[]⟩ : ByteArray)] ?_; intro gb117 hg w25 hbox hb; have BK117 := Aside0.mk (hbox); have GW117 := Aside0.mk ((gs_ hg : w.heap.size ≤ gb117)); have GE117 := Aside0.mk ((gs_ hg : w.heap.size ≤ gb117)); replace HB := Aside0.mk (below_step (bl_) hb); clear hb hbox hg; have hcz26_0 := bc0_ BK117; have hcz26_1 := bc1_ BK117; have hcz26_2 := bc2_ BK117; have hcz26_3 := bc3_ BK117; have hcz26_4 := bc4_ BK117; have hfz26_0 := blk_frozen BK117.out 0; have hfz26_1 := blk_frozen BK117.out 1; have hfz26_2 := blk_frozen BK117.out 2; have hfz26_3 := blk_frozen BK117.out 3; have hfz26_4 := blk_frozen BK117.out 4))
     have n0_ : Aside0 ((((((w25.setCell ⟨gb117, 0, none⟩ (.string ((rd_T68 l0 x7_1).f0))).setCell ⟨gb117, 1, none⟩ (.bool ((rd_T68 l0 x7_1).f1))).setCell ⟨gb117, 2, none⟩ (.string ((rd_T68 l0 x7_1).f2))).setCell ⟨gb117, 3, none⟩ (.string ((rd_T68 l0 x7_1).f3))).setCell ⟨gb117, 4, none⟩ (.string ((rd_T68 l0 x7_1).f4))).heap[gb117]? = some (.cells #[.string ((rd_T68 l0 x7_1).f0), .bool ((rd_T68 l0 x7_1).f1), .string ((rd_T68 l0 x7_1).f2), .string ((rd_T68 l0 x7_1).f3), .string ((rd_T68 l0 x7_1).f4)] 68 (0, 0))) := ⟨by (with_reducible repeat (first | refine blk_drewN ?_ _ | refine blk_drew ?_ | refine blk_alloc ?_ _)); refine blk_put (cs := #[.string ((rd_T68 l0 x7_1).f0), .bool ((rd_T68 l0 x7_1).f1), .string ((rd_T68 l0 x7_1).f2), .string ((rd_T68 l0 x7_1).f3), .string (⟨#[]⟩ : ByteArray)]) ?_ 4 _ rfl; (with_reducible repeat (first | refine blk_drewN ?_ _ | refine blk_drew ?_ | refine blk_alloc ?_ _)); refine blk_put (cs := #[.string ((rd_T68 l0 x7_1).f0), .bool ((rd_T68 l0 x7_1).f1), .string ((rd_T68 l0 x7_1).f2), .string (⟨#[]⟩ : ByteArray), .string (⟨#[]⟩ : ByteArray)]) ?_ 3 _ rfl; (with_reducible repeat (first | refine blk_drewN ?_ _ | refine blk_drew ?_ | refine blk_alloc ?_ _)); refine blk_put (cs := #[.string ((rd_T68 l0 x7_1).f0), .bool ((rd_T68 l0 x7_1).f1), .string (⟨#[]⟩ : ByteArray), .string (⟨#[]⟩ : ByteArray), .string (⟨#[]⟩ : ByteArray)]) ?_ 2 _ rfl; (with_reducible repeat (first | refine blk_drewN ?_ _ | refine blk_drew ?_ | refine blk_alloc ?_ _)); refine blk_put (cs := #[.string ((rd_T68 l0 x7_1).f0), .bool false, .string (⟨#[]⟩ : ByteArray), .string (⟨#[]⟩ : ByteArray), .string (⟨#[]⟩ : ByteArray)]) ?_ 1 _ rfl; (with_reducible repeat (first | refine blk_drewN ?_ _ | refine blk_drew ?_ | refine blk_alloc ?_ _)); refine blk_put (cs := #[.string (⟨#[]⟩ : ByteArray), .bool false, .string (⟨#[]⟩ : ByteArray), .string (⟨#[]⟩ : ByteArray), .string (⟨#[]⟩ : ByteArray)]) ?_ 0 _ rfl; (with_reducible repeat (first | refine blk_drewN ?_ _ | refine blk_drew ?_ | refine blk_alloc ?_ _)); exact BK117.out⟩
     have n1_ : Aside0 (Below w.heap.size w (((((w25.setCell ⟨gb117, 0, none⟩ (.string ((rd_T68 l0 x7_1).f0))).setCell ⟨gb117, 1, none⟩ (.bool ((rd_T68 l0 x7_1).f1))).setCell ⟨gb117, 2, none⟩ (.string ((rd_T68 l0 x7_1).f2))).setCell ⟨gb117, 3, none⟩ (.string ((rd_T68 l0 x7_1).f3))).setCell ⟨gb117, 4, none⟩ (.string ((rd_T68 l0 x7_1).f4)))) := ⟨bl_⟩
     (try clear BK117)
     (try clear HB)
     generalize (((((w25.setCell ⟨gb117, 0, none⟩ (.string ((rd_T68 l0 x7_1).f0))).setCell ⟨gb117, 1, none⟩ (.bool ((rd_T68 l0 x7_1).f1))).setCell ⟨gb117, 2, none⟩ (.string ((rd_T68 l0 x7_1).f2))).setCell ⟨gb117, 3, none⟩ (.string ((rd_T68 l0 x7_1).f3))).setCell ⟨gb117, 4, none⟩ (.string ((rd_T68 l0 x7_1).f4))) = w27 at n0_ n1_ ⊢
     have BK117 := n0_
     have HB := n1_
     clear n0_ n1_
     replace BK117 := Aside0.mk (blk_drew BK117.out)
     replace HB := Aside0.mk (below_drew1 HB.out)
     refine start_ (n := 10) (S := fun w' => w'.cell? ⟨gb117, 0, none⟩ = some (.string ((rd_T68 l0 x7_1).f0)) ∧ w'.cell? ⟨gb117, 1, none⟩ = some (.bool ((rd_T68 l0 x7_1).f1)) ∧ w'.cell? ⟨gb117, 2, none⟩ = some (.string ((rd_T68 l0 x7_1).f2)) ∧ w'.cell? ⟨gb117, 3, none⟩ = some (.string ((rd_T68 l0 x7_1).f3)) ∧ w'.cell? ⟨gb117, 4, none⟩ = some (.string ((rd_T68 l0 x7_1).f4))) (ds := []) (bm 10 0) (by kernel_rfl) rfl rfl ⟨(blk_cell BK117.out 0).trans rfl, (blk_cell BK117.out 1).trans rfl, (blk_cell BK117.out 2).trans rfl, (blk_cell BK117.out 3).trans rfl, (blk_cell BK117.out 4).trans rfl⟩ (fun hHeld => ?_); refine with_tabW impl_affixesOk.tab4 impl_affixesOk.bits4 (fun HT_ HW_ => ?_)
     generalize w27.drew = w28 at BK117 HB hHeld ⊢
     refine sr_ 0 (some 12) (bm 10 1) HT_ HW_ hHeld (h := ?_)
     refine sn_ 1 (some 13) (bm 10 3) HT_ (fun K hK => ?_)
     refine goes_ Try.func66 (by kernel_rfl) rfl #[.agg #[.string ((rd_T68 l0 x7_1).f0), .bool ((rd_T68 l0 x7_1).f1), .string ((rd_T68 l0 x7_1).f2), .string ((rd_T68 l0 x7_1).f3), .string ((rd_T68 l0 x7_1).f4)]] (by rfl) rfl rfl (by (try simp only [List.map_toArray, List.map_cons, List.map_nil]); first | done | rfl | (simp only [List.length_drop, List.length_take]; rfl)) ?_
     with_reducible refine (impl_AffixOk.calls k1 ((rd_T68 l0 x7_1).f0) ((rd_T68 l0 x7_1).f1) ((rd_T68 l0 x7_1).f2) ((rd_T68 l0 x7_1).f3) ((rd_T68 l0 x7_1).f4) false _ A5.out).mono ?_
     rintro e w29 ⟨rfl, hb⟩
     refine ⟨_, rfl, ?_⟩
     replace BK117 := Aside0.mk (blk_below (bk_ BK117) hb)
     replace HB := Aside0.mk (below_step (bl_) hb)
     (try clear hb)
     (try clear hb2)
     (try clear hk)
     (try clear hi)
     refine hK.out _ _ ⟨(blk_cell BK117.out 0).trans rfl, (blk_cell BK117.out 1).trans rfl, (blk_cell BK117.out 2).trans rfl, (blk_cell BK117.out 3).trans rfl, (blk_cell BK117.out 4).trans rfl⟩ (fun hHeld => ?_)
     clear hK K
     refine nm_ ?_
     refine sp_ 2 (some 14) (bm 10 7) HT_ (h := ?_)
     refine sp_ 3 (some 15) (bm 10 15) HT_ (h := ?_)
     refine so_ 4 (some 16) (bm 10 31) HT_ (h := ?_)
     refine so_ 5 (some 17) (bm 10 63) HT_ (h := ?_)
     refine so_ 6 (some 18) (bm 10 127) HT_ (h := ?_)
     refine so_ 7 (some 19) (bm 10 255) HT_ (h := ?_)
     refine so_ 8 (some 20) (bm 10 511) HT_ (h := ?_)
     refine sp_ 9 (some 21) (bm 10 1023) HT_ (h := ?_)
     refine done_ (done_of HT_.out (by kernel_rfl)) ?_
     try go_wp2
     go_ret
     exact ⟨rfe_, bl_⟩
   have c7b0 := eq_true (od_ : 0 ≤ x7_1)
   replace H := inc_ H; obtain ⟨c8, H⟩ := H
   have c8b0 := eq_true c8
   have c8b1 : decide (x7_1 ≤ (l0.length : Int)) = true := decide_eq_true c8
   clear c8
   obtain ⟨y119, hy_⟩ : ∃ y_ : List (S68), y_ = (l0.take (x7_1 : Int).toNat) := ⟨_, rfl⟩
   replace H : ((impl_Affix_67.f k1 y119 ((rd_T68 l0 x7_1).f0) ((rd_T68 l0 x7_1).f1) ((rd_T68 l0 x7_1).f2) ((rd_T68 l0 x7_1).f3) ((rd_T68 l0 x7_1).f4)).bind fun t123 => (if t123 = true then (some false) else (impl_affixesOk.l0 k1 l0 l0 (l0.length : Int) (wrap64 (x7_1 + 1))))) = some r := ry_
   have Ny119 := Aside0.mk hy_; clear hy_
   replace H := Option.bind_eq_some_iff.mp H
   obtain ⟨t123, A90, H⟩ := H; try dsimp only at H
   have A9 := Aside0.mk A90
   clear A90
   replace H := itb_ H; rcases H with ⟨rfl, H⟩ | ⟨rfl, H⟩
   · obtain rfl := Option.some.inj H
     have p116 : 0 ≤ (x7_1 : Int) := od_
     have q116 : x7_1 < (l0.length : Int) := od_
     obtain ⟨ad116, e116, hx116_0, hx116_1, hx116_2, hx116_3, hx116_4⟩ := at_T68 HR0.out x7_1 p116 q116
     cases e116
     replace hx116_0 := hc_ HB hx116_0
     replace hx116_1 := hc_ HB hx116_1
     replace hx116_2 := hc_ HB hx116_2
     replace hx116_3 := hc_ HB hx116_3
     replace hx116_4 := hc_ HB hx116_4
     replace p116 := eq_true p116; replace q116 := eq_true q116
     try go_wp2_with (first | ((with_reducible refine gate_dst (N := 4) rfl ?_); refine be_ 4 68 #[.string (⟨#[]⟩ : ByteArray), .bool false, .string (⟨#[]⟩ : ByteArray), .string (⟨#[]⟩ : ByteArray), .string (⟨#[]⟩ : ByteArray)] ?_; intro gb117 hg w11 hbox hb; have BK117 := Aside0.mk (hbox); have GW117 := Aside0.mk ((gs_ hg : w.heap.size ≤ gb117)); have GE117 := Aside0.mk ((gs_ hg : w.heap.size ≤ gb117)); replace HB := Aside0.mk (below_step (bl_) hb); clear hb hbox hg; have hcz12_0 := bc0_ BK117; have hcz12_1 := bc1_ BK117; have hcz12_2 := bc2_ BK117; have hcz12_3 := bc3_ BK117; have hcz12_4 := bc4_ BK117; have hfz12_0 := blk_frozen BK117.out 0; have hfz12_1 := blk_frozen BK117.out 1; have hfz12_2 := blk_frozen BK117.out 2; have hfz12_3 := blk_frozen BK117.out 3; have hfz12_4 := blk_frozen BK117.out 4))
     have n0_ : Aside0 ((((((w11.setCell ⟨gb117, 0, none⟩ (.string ((rd_T68 l0 x7_1).f0))).setCell ⟨gb117, 1, none⟩ (.bool ((rd_T68 l0 x7_1).f1))).setCell ⟨gb117, 2, none⟩ (.string ((rd_T68 l0 x7_1).f2))).setCell ⟨gb117, 3, none⟩ (.string ((rd_T68 l0 x7_1).f3))).setCell ⟨gb117, 4, none⟩ (.string ((rd_T68 l0 x7_1).f4))).heap[gb117]? = some (.cells #[.string ((rd_T68 l0 x7_1).f0), .bool ((rd_T68 l0 x7_1).f1), .string ((rd_T68 l0 x7_1).f2), .string ((rd_T68 l0 x7_1).f3), .string ((rd_T68 l0 x7_1).f4)] 68 (0, 0))) := ⟨by (with_reducible repeat (first | refine blk_drewN ?_ _ | refine blk_drew ?_ | refine blk_alloc ?_ _)); refine blk_put (cs := #[.string ((rd_T68 l0 x7_1).f0), .bool ((rd_T68 l0 x7_1).f1), .string ((rd_T68 l0 x7_1).f2), .string ((rd_T68 l0 x7_1).f3), .string (⟨#[]⟩ : ByteArray)]) ?_ 4 _ rfl; (with_reducible repeat (first | refine blk_drewN ?_ _ | refine blk_drew ?_ | refine blk_alloc ?_ _)); refine blk_put (cs := #[.string ((rd_T68 l0 x7_1).f0), .bool ((rd_T68 l0 x7_1).f1), .string ((rd_T68 l0 x7_1).f2), .string (⟨#[]⟩ : ByteArray), .string (⟨#[]⟩ : ByteArray)]) ?_ 3 _ rfl; (with_reducible repeat (first | refine blk_drewN ?_ _ | refine blk_drew ?_ | refine blk_alloc ?_ _)); refine blk_put (cs := #[.string ((rd_T68 l0 x7_1).f0), .bool ((rd_T68 l0 x7_1).f1), .string (⟨#[]⟩ : ByteArray), .string (⟨#[]⟩ : ByteArray), .string (⟨#[]⟩ : ByteArray)]) ?_ 2 _ rfl; (with_reducible repeat (first | refine blk_drewN ?_ _ | refine blk_drew ?_ | refine blk_alloc ?_ _)); refine blk_put (cs := #[.string ((rd_T68 l0 x7_1).f0), .bool false, .string (⟨#[]⟩ : ByteArray), .string (⟨#[]⟩ : ByteArray), .string (⟨#[]⟩ : ByteArray)]) ?_ 1 _ rfl; (with_reducible repeat (first | refine blk_drewN ?_ _ | refine blk_drew ?_ | refine blk_alloc ?_ _)); refine blk_put (cs := #[.string (⟨#[]⟩ : ByteArray), .bool false, .string (⟨#[]⟩ : ByteArray), .string (⟨#[]⟩ : ByteArray), .string (⟨#[]⟩ : ByteArray)]) ?_ 0 _ rfl; (with_reducible repeat (first | refine blk_drewN ?_ _ | refine blk_drew ?_ | refine blk_alloc ?_ _)); exact BK117.out⟩
     have n1_ : Aside0 (Below w.heap.size w (((((w11.setCell ⟨gb117, 0, none⟩ (.string ((rd_T68 l0 x7_1).f0))).setCell ⟨gb117, 1, none⟩ (.bool ((rd_T68 l0 x7_1).f1))).setCell ⟨gb117, 2, none⟩ (.string ((rd_T68 l0 x7_1).f2))).setCell ⟨gb117, 3, none⟩ (.string ((rd_T68 l0 x7_1).f3))).setCell ⟨gb117, 4, none⟩ (.string ((rd_T68 l0 x7_1).f4)))) := ⟨bl_⟩
     (try clear BK117)
     (try clear HB)
     generalize (((((w11.setCell ⟨gb117, 0, none⟩ (.string ((rd_T68 l0 x7_1).f0))).setCell ⟨gb117, 1, none⟩ (.bool ((rd_T68 l0 x7_1).f1))).setCell ⟨gb117, 2, none⟩ (.string ((rd_T68 l0 x7_1).f2))).setCell ⟨gb117, 3, none⟩ (.string ((rd_T68 l0 x7_1).f3))).setCell ⟨gb117, 4, none⟩ (.string ((rd_T68 l0 x7_1).f4))) = w13 at n0_ n1_ ⊢
     have BK117 := n0_
     have HB := n1_
     clear n0_ n1_
     replace BK117 := Aside0.mk (blk_drew BK117.out)
     replace HB := Aside0.mk (below_drew1 HB.out)
     refine start_ (n := 10) (S := fun w' => w'.cell? ⟨gb117, 0, none⟩ = some (.string ((rd_T68 l0 x7_1).f0)) ∧ w'.cell? ⟨gb117, 1, none⟩ = some (.bool ((rd_T68 l0 x7_1).f1)) ∧ w'.cell? ⟨gb117, 2, none⟩ = some (.string ((rd_T68 l0 x7_1).f2)) ∧ w'.cell? ⟨gb117, 3, none⟩ = some (.string ((rd_T68 l0 x7_1).f3)) ∧ w'.cell? ⟨gb117, 4, none⟩ = some (.string ((rd_T68 l0 x7_1).f4))) (ds := []) (bm 10 0) (by kernel_rfl) rfl rfl ⟨(blk_cell BK117.out 0).trans rfl, (blk_cell BK117.out 1).trans rfl, (blk_cell BK117.out 2).trans rfl, (blk_cell BK117.out 3).trans rfl, (blk_cell BK117.out 4).trans rfl⟩ (fun hHeld => ?_); refine with_tabW impl_affixesOk.tab4 impl_affixesOk.bits4 (fun HT_ HW_ => ?_)
     generalize w13.drew = w14 at BK117 HB hHeld ⊢
     refine sr_ 0 (some 12) (bm 10 1) HT_ HW_ hHeld (h := ?_)
     refine sn_ 1 (some 13) (bm 10 3) HT_ (fun K hK => ?_)
     refine goes_ Try.func66 (by kernel_rfl) rfl #[.agg #[.string ((rd_T68 l0 x7_1).f0), .bool ((rd_T68 l0 x7_1).f1), .string ((rd_T68 l0 x7_1).f2), .string ((rd_T68 l0 x7_1).f3), .string ((rd_T68 l0 x7_1).f4)]] (by rfl) rfl rfl (by (try simp only [List.map_toArray, List.map_cons, List.map_nil]); first | done | rfl | (simp only [List.length_drop, List.length_take]; rfl)) ?_
     with_reducible refine (impl_AffixOk.calls k1 ((rd_T68 l0 x7_1).f0) ((rd_T68 l0 x7_1).f1) ((rd_T68 l0 x7_1).f2) ((rd_T68 l0 x7_1).f3) ((rd_T68 l0 x7_1).f4) true _ A5.out).mono ?_
     rintro e w15 ⟨rfl, hb⟩
     refine ⟨_, rfl, ?_⟩
     replace BK117 := Aside0.mk (blk_below (bk_ BK117) hb)
     replace HB := Aside0.mk (below_step (bl_) hb)
     (try clear hb)
     (try clear hb2)
     (try clear hk)
     (try clear hi)
     have q16 : (x7_1 : Int) ≤ ((l0.length : Int) : Int) := od_
     obtain ⟨i016, hi016, _, hsz16, _⟩ := info_parts info68
     have hroom16 : l0.length ≤ c0 := HC0.out
     have hC16 : Kd.C k68 _ (some ad116) l0.length l0 := HR0.out
     have hcut16 := cut_to (P := Try.prog) 23 68 .i64 Try.underlying23 hi016 (some ad116) l0.length c0 x7_1 (od_) q16 hroom16
     have hr16 := Kd.C_take (m := (x7_1 : Int).toNat) hC16 (by omega)
     have hy16 : y119.length = (x7_1 : Int).toNat := (by rw [Ny119.out, List.length_take]; omega)
     rw [← Ny119.out] at hr16
     rw [← hy16] at hcut16
     have HR122 := Aside0.mk hr16
     have HC122 := Aside0.mk (show y119.length ≤ c0 from by omega)
     clear hr16 hC16 hroom16 hi016 hsz16
     have KY16 := Aside0.mk hy16
     clear hy16
     replace q16 := eq_true q16
     refine hK.out _ _ ⟨(blk_cell BK117.out 0).trans rfl, (blk_cell BK117.out 1).trans rfl, (blk_cell BK117.out 2).trans rfl, (blk_cell BK117.out 3).trans rfl, (blk_cell BK117.out 4).trans rfl⟩ (fun hHeld => ?_)
     clear hK K
     refine nm_ ?_
     refine sp_ 2 (some 14) (bm 10 7) HT_ (h := ?_)
     refine sp_ 3 (some 15) (bm 10 15) HT_ (h := ?_)
     refine sp_ 4 (some 16) (bm 10 31) HT_ (h := ?_)
     refine sp_ 5 (some 17) (bm 10 63) HT_ (h := ?_)
     refine sp_ 6 (some 18) (bm 10 127) HT_ (h := ?_)
     refine sr_ 7 (some 19) (bm 10 255) HT_ HW_ hHeld (h := ?_)
     refine sn_ 8 (some 20) (bm 10 511) HT_ (fun K hK => ?_)
     refine goes_ Try.func67 (by kernel_rfl) rfl #[.slice (some ad116) y119.length c0, .agg #[.string ((rd_T68 l0 x7_1).f0), .bool ((rd_T68 l0 x7_1).f1), .string ((rd_T68 l0 x7_1).f2), .string ((rd_T68 l0 x7_1).f3), .string ((rd_T68 l0 x7_1).f4)]] (by rfl) rfl rfl (by (try simp only [List.map_toArray, List.map_cons, List.map_nil]); first | done | rfl | (simp only [List.length_drop, List.length_take]; rfl)) ?_
     with_reducible refine (impl_Affix_67.calls k1 _ _ y119 ((rd_T68 l0 x7_1).f0) ((rd_T68 l0 x7_1).f1) ((rd_T68 l0 x7_1).f2) ((rd_T68 l0 x7_1).f3) ((rd_T68 l0 x7_1).f4) true _ ?side1 ?side2 A9.out).mono ?_
     (case side1 => exact cb_ HR122)
     (case side2 => exact HC122.out)
     rintro e w17 ⟨rfl, hb⟩
     refine ⟨_, rfl, ?_⟩
     replace BK117 := Aside0.mk (blk_below (bk_ BK117) hb)
     replace HB := Aside0.mk (below_step (bl_) hb)
     (try clear hb)
     (try clear hb2)
     (try clear hk)
     (try clear hi)
     refine hK.out _ _ ⟨(blk_cell BK117.out 0).trans rfl, (blk_cell BK117.out 1).trans rfl, (blk_cell BK117.out 2).trans rfl, (blk_cell BK117.out 3).trans rfl, (blk_cell BK117.out 4).trans rfl⟩ (fun hHeld => ?_)
     clear hK K
     refine nm_ ?_
     refine sp_ 9 (some 21) (bm 10 1023) HT_ (h := ?_)
     refine done_ (done_of HT_.out (by kernel_rfl)) ?_
     try go_wp2
     go_ret
     exact ⟨rfe_, bl_⟩
   have H' := Aside0.mk H; clear H
   have p116 : 0 ≤ (x7_1 : Int) := od_
   have q116 : x7_1 < (l0.length : Int) := od_
   obtain ⟨ad116, e116, hx116_0, hx116_1, hx116_2, hx116_3, hx116_4⟩ := at_T68 HR0.out x7_1 p116 q116
   cases e116
   replace hx116_0 := hc_ HB hx116_0
   replace hx116_1 := hc_ HB hx116_1
   replace hx116_2 := hc_ HB hx116_2
   replace hx116_3 := hc_ HB hx116_3
   replace hx116_4 := hc_ HB hx116_4
   replace p116 := eq_true p116; replace q116 := eq_true q116
   try go_wp2_with (first | ((with_reducible refine gate_dst (N := 4) rfl ?_); refine be_ 4 68 #[.string (⟨#[]⟩ : ByteArray), .bool false, .string (⟨#[]⟩ : ByteArray), .string (⟨#[]⟩ : ByteArray), .string (⟨#[]⟩ : ByteArray)] ?_; intro gb117 hg w18 hbox hb; have BK117 := Aside0.mk (hbox); have GW117 := Aside0.mk ((gs_ hg : w.heap.size ≤ gb117)); have GE117 := Aside0.mk ((gs_ hg : w.heap.size ≤ gb117)); replace HB := Aside0.mk (below_step (bl_) hb); clear hb hbox hg; have hcz19_0 := bc0_ BK117; have hcz19_1 := bc1_ BK117; have hcz19_2 := bc2_ BK117; have hcz19_3 := bc3_ BK117; have hcz19_4 := bc4_ BK117; have hfz19_0 := blk_frozen BK117.out 0; have hfz19_1 := blk_frozen BK117.out 1; have hfz19_2 := blk_frozen BK117.out 2; have hfz19_3 := blk_frozen BK117.out 3; have hfz19_4 := blk_frozen BK117.out 4))
   have n0_ : Aside0 ((((((w18.setCell ⟨gb117, 0, none⟩ (.string ((rd_T68 l0 x7_1).f0))).setCell ⟨gb117, 1, none⟩ (.bool ((rd_T68 l0 x7_1).f1))).setCell ⟨gb117, 2, none⟩ (.string ((rd_T68 l0 x7_1).f2))).setCell ⟨gb117, 3, none⟩ (.string ((rd_T68 l0 x7_1).f3))).setCell ⟨gb117, 4, none⟩ (.string ((rd_T68 l0 x7_1).f4))).heap[gb117]? = some (.cells #[.string ((rd_T68 l0 x7_1).f0), .bool ((rd_T68 l0 x7_1).f1), .string ((rd_T68 l0 x7_1).f2), .string ((rd_T68 l0 x7_1).f3), .string ((rd_T68 l0 x7_1).f4)] 68 (0, 0))) := ⟨by (with_reducible repeat (first | refine blk_drewN ?_ _ | refine blk_drew ?_ | refine blk_alloc ?_ _)); refine blk_put (cs := #[.string ((rd_T68 l0 x7_1).f0), .bool ((rd_T68 l0 x7_1).f1), .string ((rd_T68 l0 x7_1).f2), .string ((rd_T68 l0 x7_1).f3), .string (⟨#[]⟩ : ByteArray)]) ?_ 4 _ rfl; (with_reducible repeat (first | refine blk_drewN ?_ _ | refine blk_drew ?_ | refine blk_alloc ?_ _)); refine blk_put (cs := #[.string ((rd_T68 l0 x7_1).f0), .bool ((rd_T68 l0 x7_1).f1), .string ((rd_T68 l0 x7_1).f2), .string (⟨#[]⟩ : ByteArray), .string (⟨#[]⟩ : ByteArray)]) ?_ 3 _ rfl; (with_reducible repeat (first | refine blk_drewN ?_ _ | refine blk_drew ?_ | refine blk_alloc ?_ _)); refine blk_put (cs := #[.string ((rd_T68 l0 x7_1).f0), .bool ((rd_T68 l0 x7_1).f1), .string (⟨#[]⟩ : ByteArray), .string (⟨#[]⟩ : ByteArray), .string (⟨#[]⟩ : ByteArray)]) ?_ 2 _ rfl; (with_reducible repeat (first | refine blk_drewN ?_ _ | refine blk_drew ?_ | refine blk_alloc ?_ _)); refine blk_put (cs := #[.string ((rd_T68 l0 x7_1).f0), .bool false, .string (⟨#[]⟩ : ByteArray), .string (⟨#[]⟩ : ByteArray), .string (⟨#[]⟩ : ByteArray)]) ?_ 1 _ rfl; (with_reducible repeat (first | refine blk_drewN ?_ _ | refine blk_drew ?_ | refine blk_alloc ?_ _)); refine blk_put (cs := #[.string (⟨#[]⟩ : ByteArray), .bool false, .string (⟨#[]⟩ : ByteArray), .string (⟨#[]⟩ : ByteArray), .string (⟨#[]⟩ : ByteArray)]) ?_ 0 _ rfl; (with_reducible repeat (first | refine blk_drewN ?_ _ | refine blk_drew ?_ | refine blk_alloc ?_ _)); exact BK117.out⟩
   have n1_ : Aside0 (Below w.heap.size w (((((w18.setCell ⟨gb117, 0, none⟩ (.string ((rd_T68 l0 x7_1).f0))).setCell ⟨gb117, 1, none⟩ (.bool ((rd_T68 l0 x7_1).f1))).setCell ⟨gb117, 2, none⟩ (.string ((rd_T68 l0 x7_1).f2))).setCell ⟨gb117, 3, none⟩ (.string ((rd_T68 l0 x7_1).f3))).setCell ⟨gb117, 4, none⟩ (.string ((rd_T68 l0 x7_1).f4)))) := ⟨bl_⟩
   (try clear BK117)
   (try clear HB)
   generalize (((((w18.setCell ⟨gb117, 0, none⟩ (.string ((rd_T68 l0 x7_1).f0))).setCell ⟨gb117, 1, none⟩ (.bool ((rd_T68 l0 x7_1).f1))).setCell ⟨gb117, 2, none⟩ (.string ((rd_T68 l0 x7_1).f2))).setCell ⟨gb117, 3, none⟩ (.string ((rd_T68 l0 x7_1).f3))).setCell ⟨gb117, 4, none⟩ (.string ((rd_T68 l0 x7_1).f4))) = w20 at n0_ n1_ ⊢
   have BK117 := n0_
   have HB := n1_
   clear n0_ n1_
   replace BK117 := Aside0.mk (blk_drew BK117.out)
   replace HB := Aside0.mk (below_drew1 HB.out)
   refine start_ (n := 10) (S := fun w' => w'.cell? ⟨gb117, 0, none⟩ = some (.string ((rd_T68 l0 x7_1).f0)) ∧ w'.cell? ⟨gb117, 1, none⟩ = some (.bool ((rd_T68 l0 x7_1).f1)) ∧ w'.cell? ⟨gb117, 2, none⟩ = some (.string ((rd_T68 l0 x7_1).f2)) ∧ w'.cell? ⟨gb117, 3, none⟩ = some (.string ((rd_T68 l0 x7_1).f3)) ∧ w'.cell? ⟨gb117, 4, none⟩ = some (.string ((rd_T68 l0 x7_1).f4))) (ds := []) (bm 10 0) (by kernel_rfl) rfl rfl ⟨(blk_cell BK117.out 0).trans rfl, (blk_cell BK117.out 1).trans rfl, (blk_cell BK117.out 2).trans rfl, (blk_cell BK117.out 3).trans rfl, (blk_cell BK117.out 4).trans rfl⟩ (fun hHeld => ?_); refine with_tabW impl_affixesOk.tab4 impl_affixesOk.bits4 (fun HT_ HW_ => ?_)
   generalize w20.drew = w21 at BK117 HB hHeld ⊢
   refine sr_ 0 (some 12) (bm 10 1) HT_ HW_ hHeld (h := ?_)
   refine sn_ 1 (some 13) (bm 10 3) HT_ (fun K hK => ?_)
   refine goes_ Try.func66 (by kernel_rfl) rfl #[.agg #[.string ((rd_T68 l0 x7_1).f0), .bool ((rd_T68 l0 x7_1).f1), .string ((rd_T68 l0 x7_1).f2), .string ((rd_T68 l0 x7_1).f3), .string ((rd_T68 l0 x7_1).f4)]] (by rfl) rfl rfl (by (try simp only [List.map_toArray, List.map_cons, List.map_nil]); first | done | rfl | (simp only [List.length_drop, List.length_take]; rfl)) ?_
   with_reducible refine (impl_AffixOk.calls k1 ((rd_T68 l0 x7_1).f0) ((rd_T68 l0 x7_1).f1) ((rd_T68 l0 x7_1).f2) ((rd_T68 l0 x7_1).f3) ((rd_T68 l0 x7_1).f4) true _ A5.out).mono ?_
   rintro e w22 ⟨rfl, hb⟩
   refine ⟨_, rfl, ?_⟩
   replace BK117 := Aside0.mk (blk_below (bk_ BK117) hb)
   replace HB := Aside0.mk (below_step (bl_) hb)
   (try clear hb)
   (try clear hb2)
   (try clear hk)
   (try clear hi)
   have q23 : (x7_1 : Int) ≤ ((l0.length : Int) : Int) := od_
   obtain ⟨i023, hi023, _, hsz23, _⟩ := info_parts info68
   have hroom23 : l0.length ≤ c0 := HC0.out
   have hC23 : Kd.C k68 _ (some ad116) l0.length l0 := HR0.out
   have hcut23 := cut_to (P := Try.prog) 23 68 .i64 Try.underlying23 hi023 (some ad116) l0.length c0 x7_1 (od_) q23 hroom23
   have hr23 := Kd.C_take (m := (x7_1 : Int).toNat) hC23 (by omega)
   have hy23 : y119.length = (x7_1 : Int).toNat := (by rw [Ny119.out, List.length_take]; omega)
   rw [← Ny119.out] at hr23
   rw [← hy23] at hcut23
   have HR122 := Aside0.mk hr23
   have HC122 := Aside0.mk (show y119.length ≤ c0 from by omega)
   clear hr23 hC23 hroom23 hi023 hsz23
   have KY23 := Aside0.mk hy23
   clear hy23
   replace q23 := eq_true q23
   refine hK.out _ _ ⟨(blk_cell BK117.out 0).trans rfl, (blk_cell BK117.out 1).trans rfl, (blk_cell BK117.out 2).trans rfl, (blk_cell BK117.out 3).trans rfl, (blk_cell BK117.out 4).trans rfl⟩ (fun hHeld => ?_)
   clear hK K
   refine nm_ ?_
   refine sp_ 2 (some 14) (bm 10 7) HT_ (h := ?_)
   refine sp_ 3 (some 15) (bm 10 15) HT_ (h := ?_)
   refine sp_ 4 (some 16) (bm 10 31) HT_ (h := ?_)
   refine sp_ 5 (some 17) (bm 10 63) HT_ (h := ?_)
   refine sp_ 6 (some 18) (bm 10 127) HT_ (h := ?_)
   refine sr_ 7 (some 19) (bm 10 255) HT_ HW_ hHeld (h := ?_)
   refine sn_ 8 (some 20) (bm 10 511) HT_ (fun K hK => ?_)
   refine goes_ Try.func67 (by kernel_rfl) rfl #[.slice (some ad116) y119.length c0, .agg #[.string ((rd_T68 l0 x7_1).f0), .bool ((rd_T68 l0 x7_1).f1), .string ((rd_T68 l0 x7_1).f2), .string ((rd_T68 l0 x7_1).f3), .string ((rd_T68 l0 x7_1).f4)]] (by rfl) rfl rfl (by (try simp only [List.map_toArray, List.map_cons, List.map_nil]); first | done | rfl | (simp only [List.length_drop, List.length_take]; rfl)) ?_
   with_reducible refine (impl_Affix_67.calls k1 _ _ y119 ((rd_T68 l0 x7_1).f0) ((rd_T68 l0 x7_1).f1) ((rd_T68 l0 x7_1).f2) ((rd_T68 l0 x7_1).f3) ((rd_T68 l0 x7_1).f4) false _ ?side1 ?side2 A9.out).mono ?_
   (case side1 => exact cb_ HR122)
   (case side2 => exact HC122.out)
   rintro e w24 ⟨rfl, hb⟩
   refine ⟨_, rfl, ?_⟩
   replace BK117 := Aside0.mk (blk_below (bk_ BK117) hb)
   replace HB := Aside0.mk (below_step (bl_) hb)
   (try clear hb)
   (try clear hb2)
   (try clear hk)
   (try clear hi)
   refine hK.out _ _ ⟨(blk_cell BK117.out 0).trans rfl, (blk_cell BK117.out 1).trans rfl, (blk_cell BK117.out 2).trans rfl, (blk_cell BK117.out 3).trans rfl, (blk_cell BK117.out 4).trans rfl⟩ (fun hHeld => ?_)
   clear hK K
   refine nm_ ?_
   refine sp_ 9 (some 21) (bm 10 1023) HT_ (h := ?_)
   refine done_ (done_of HT_.out (by kernel_rfl)) ?_
   try go_wp2
   go_roundg k1
   case measure => have := HK1.out; omega
   case rel => exact ⟨(wrap64 (x7_1 + 1)), rf_, H', ⟨by have := HK1.out; omega⟩, ⟨bl_⟩⟩

/-! ### impl_within: function 45 -/
def impl_within.f (a0 : Int) (a1 : Int) (a2 : Int) : Option (Bool) := if a0 ≥ a1 then (some (decide (a0 ≤ a2))) else (some false)
theorem impl_within.calls (a0 : Int) (a1 : Int) (a2 : Int) (r : Bool) (w : World) (h : impl_within.f a0 a1 a2 = some r) :
 Calls Try.prog 45 #[.int .i64 a0, .int .i64 a1, .int .i64 a2] w fun e w' => e = .returned (.bool r) ∧ Drawn0 w w' := by
 unfold impl_within.f at h; have H := h; clear h
 replace H := itcc_ H; rcases H with ⟨c4, H⟩ | ⟨c4, H⟩
 · have c4b0 : decide (a1 ≤ a0) = true := decide_eq_true c4
   clear c4
   obtain rfl := Option.some.inj H
   go_enter Try.func45, Try.ntmps45
   go_wp2
   go_ret
   exact ⟨rf_, dr_⟩
 have c4b0 : decide (a1 ≤ a0) = false := decide_eq_false c4
 clear c4
 obtain rfl := Option.some.inj H
 go_enter Try.func45, Try.ntmps45
 go_wp2
 go_ret
 exact ⟨rf_, dr_⟩

/-! ### impl_WordOk: function 22 -/
def impl_WordOk.f (k : Nat) (a0 : ByteArray) : Option (Bool) := (impl_within.f (a0.size : Int) 1 12).bind fun t124 => (if t124 = true then ((impl_lower.f k a0).bind fun t125 => (some t125)) else (some false))
theorem impl_WordOk.mono : ∀ a0 k, LeO (impl_WordOk.f k a0) (impl_WordOk.f (k + 1) a0) := by
 intro a0 k
 unfold impl_WordOk.f
 have m0 := @impl_lower.mono
 exact mn_
theorem impl_WordOk.calls (k : Nat) (a0 : ByteArray) (r : Bool) (w : World) (h : impl_WordOk.f k a0 = some r) :
 Calls Try.prog 22 #[.string a0] w fun e w' => e = .returned (.bool r) ∧ Drawn0 w w' := by
 unfold impl_WordOk.f at h; have H := h; clear h
 replace H := Option.bind_eq_some_iff.mp H
 obtain ⟨t124, A20, H⟩ := H; try dsimp only at H
 have A2 := Aside0.mk A20
 clear A20
 replace H := iub_ H; rcases H with ⟨rfl, H⟩ | ⟨rfl, H⟩
 · obtain rfl := Option.some.inj H
   go_enter Try.func22, Try.ntmps22
   go_wp2_with (first | ((with_reducible refine gate_callee (f := 45) rfl ?_); refine gl_ 5 Try.func45 #[.int .i64 (a0.size : Int), .int .i64 1, .int .i64 12] ?_; (with_reducible refine (impl_within.calls (a0.size : Int) 1 12 false _ A2.out).mono ?_); rintro e w' ⟨rfl, ⟨nd, rfl⟩⟩; refine ⟨_, rfl, ?_⟩))
   go_ret
   exact ⟨rf_, dr_⟩
 replace H := Option.bind_eq_some_iff.mp H
 obtain ⟨t125, A40, H⟩ := H; try dsimp only at H
 have A4 := Aside0.mk A40
 clear A40
 obtain rfl := Option.some.inj H
 go_enter Try.func22, Try.ntmps22
 go_wp2_with (first | ((with_reducible refine gate_callee (f := 45) rfl ?_); refine gl_ 5 Try.func45 #[.int .i64 (a0.size : Int), .int .i64 1, .int .i64 12] ?_; (with_reducible refine (impl_within.calls (a0.size : Int) 1 12 true _ A2.out).mono ?_); rintro e w' ⟨rfl, ⟨nd, rfl⟩⟩; refine ⟨_, rfl, ?_⟩) | (go_at_call 46; (with_reducible refine (impl_lower.calls k a0 t125 _ A4.out).mono ?_); rintro e w' ⟨rfl, ⟨nd, rfl⟩⟩))
 go_ret
 exact ⟨rf_, dr_⟩

/-! ### impl_entryOk: function 68 -/
def impl_entryOk.l0 : Nat → Int → Int → ByteArray → ByteArray → Option (Bool)
 | 0, _, _, _, _ => none
 | k + 1, x6, x7, x127000, x127001 => if x7 < x6 then (if 0 ≤ x7 then (if x7 < (x127001.size : Int) then ((impl_upper.f (bt x127001 x7)).bind fun t127 => (if t127 = true then (if x7 > 0 then (if 0 ≤ (wrap64 (x7 - 1)) then (if (wrap64 (x7 - 1)) < (x127001.size : Int) then (if (bt x127001 (wrap64 (x7 - 1))) ≥ (bt x127001 x7) then (some false) else (impl_entryOk.l0 k x6 (wrap64 (x7 + 1)) x127000 x127001)) else (none)) else (none)) else (impl_entryOk.l0 k x6 (wrap64 (x7 + 1)) x127000 x127001)) else (some false))) else (none)) else (none)) else ((impl_WordOk.f k x127000).bind fun t128 => (if t128 = true then (some (decide ((x127001.size : Int) ≤ 4))) else (some false)))
def impl_entryOk.f (k : Nat) (a0_0 : ByteArray) (a0_1 : ByteArray) : Option (Bool) := impl_entryOk.l0 k (a0_1.size : Int) 0 a0_0 a0_1
theorem impl_entryOk.mono_l : ∀ k, (∀ y0 y1 y2 y3, LeO (impl_entryOk.l0 k y0 y1 y2 y3) (impl_entryOk.l0 (k + 1) y0 y1 y2 y3))
 | 0 => fun _ _ _ _ r h => by simp [impl_entryOk.l0] at h
 | k + 1 => by
  have ih0 := impl_entryOk.mono_l k
  · intro y0 y1 y2 y3
    unfold impl_entryOk.l0
    have m0 := @impl_WordOk.mono
    exact mn_
theorem impl_entryOk.mono : ∀ a0 a1 k, LeO (impl_entryOk.f k a0 a1) (impl_entryOk.f (k + 1) a0 a1) := by
 intro a0 a1 k
 have ih0 := impl_entryOk.mono_l k
 unfold impl_entryOk.f
 have m0 := @impl_WordOk.mono
 exact mn_
theorem impl_entryOk.calls (k : Nat) (a0_0 : ByteArray) (a0_1 : ByteArray) (r : Bool) (w : World) (h : impl_entryOk.f k a0_0 a0_1 = some r) :
 Calls Try.prog 68 #[.agg #[.string a0_0, .string a0_1]] w fun e w' => e = .returned (.bool r) ∧ Below w.heap.size w w' := by
 have hu73 := Try.underlying73
 have HB := Aside0.mk (Below.refl w.heap.size w)
 unfold impl_entryOk.f at h; have H := h; clear h
 have H' := Aside0.mk H; clear H
 go_enter Try.func68, Try.ntmps68
 go_wp2_with (first | ((with_reducible refine gate_dst (N := 1) rfl ?_); (try (refine gate_guard (by rfl) ?_; dsimp only)); refine be_ 1 73 #[.string a0_0, .string a0_1] ?_; intro gb126 hg w2 hbox hb; have BK126 := Aside0.mk (hbox); have GW126 := Aside0.mk ((gs_ hg : w.heap.size ≤ gb126)); have GE126 := Aside0.mk ((gs_ hg : w.heap.size ≤ gb126)); replace HB := Aside0.mk (below_step (bl_) hb); clear hb hbox hg; have hcz3_0 := bc0_ BK126; have hcz3_1 := bc1_ BK126; have hfz3_0 := blk_frozen BK126.out 0; have hfz3_1 := blk_frozen BK126.out 1))
 repeat (go_quiet (first | ((with_reducible refine gate_dst (N := 1) rfl ?_); (try (refine gate_guard (by rfl) ?_; dsimp only)); refine be_ 1 73 #[.string a0_0, .string a0_1] ?_; intro gb126 hg w2 hbox hb; have BK126 := Aside0.mk (hbox); have GW126 := Aside0.mk ((gs_ hg : w.heap.size ≤ gb126)); have GE126 := Aside0.mk ((gs_ hg : w.heap.size ≤ gb126)); replace HB := Aside0.mk (below_step (bl_) hb); clear hb hbox hg; have hcz3_0 := bc0_ BK126; have hcz3_1 := bc1_ BK126; have hfz3_0 := blk_frozen BK126.out 0; have hfz3_1 := blk_frozen BK126.out 1)); try go_wp2_with (first | ((with_reducible refine gate_dst (N := 1) rfl ?_); (try (refine gate_guard (by rfl) ?_; dsimp only)); refine be_ 1 73 #[.string a0_0, .string a0_1] ?_; intro gb126 hg w2 hbox hb; have BK126 := Aside0.mk (hbox); have GW126 := Aside0.mk ((gs_ hg : w.heap.size ≤ gb126)); have GE126 := Aside0.mk ((gs_ hg : w.heap.size ≤ gb126)); replace HB := Aside0.mk (below_step (bl_) hb); clear hb hbox hg; have hcz3_0 := bc0_ BK126; have hcz3_1 := bc1_ BK126; have hfz3_0 := blk_frozen BK126.out 0; have hfz3_1 := blk_frozen BK126.out 1)))
 go_loopg [7] k (fun kq v7 w' => ∃ (x7_1 : Int), v7 = .int .i64 x7_1 ∧ Aside0 (impl_entryOk.l0 kq (a0_1.size : Int) x7_1 a0_0 a0_1 = some r) ∧ Aside0 (kq ≤ k) ∧ Aside0 (w'.heap[gb126]? = some (.cells #[.string a0_0, .string a0_1] 73 (0, 0))) ∧ Aside0 (Below w.heap.size w w'))
 case atStart => exact ⟨(0), rf_, H', ⟨Nat.le_refl _⟩, ⟨by (with_reducible repeat (first | refine blk_drewN ?_ _ | refine blk_drew ?_ | refine blk_alloc ?_ _)); exact BK126.out⟩, ⟨bl_⟩⟩
 case round =>
  clear H'
  (try clear p2);(try clear hcz3_0);(try clear hcz3_1);(try clear hfz3_0);(try clear hfz3_1)
  obtain ⟨x7_1, rfl, HA, HK1, BK126, HB⟩ := hrel
  cases gk with
  | zero => exact absurd HA.out (by simp [impl_entryOk.l0])
  | succ k1 =>
   have H := HA.out
   clear HA
   simp only [impl_entryOk.l0] at H
   replace H := iudd_ H; rcases H with ⟨c4b0, H⟩ | ⟨c4b0, H⟩
   · replace H := Option.bind_eq_some_iff.mp H
     obtain ⟨t128, A210, H⟩ := H; try dsimp only at H
     have A21 := Aside0.mk A210
     clear A210
     replace H := itb_ H; rcases H with ⟨rfl, H⟩ | ⟨rfl, H⟩
     · obtain rfl := Option.some.inj H
       have hcz23_0 := bc0_ BK126
       have hcz23_1 := bc1_ BK126
       have hfz23_0 := blk_frozen BK126.out 0
       have hfz23_1 := blk_frozen BK126.out 1
       go_wp2_with (first | (go_at_call 22; (with_reducible refine (impl_WordOk.calls k1 a0_0 true _ A21.out).mono ?_); rintro e w' ⟨rfl, ⟨nd, rfl⟩⟩; (try first | exact ⟨rfl, _, World.drewN_drewN _ _ _⟩ | exact ⟨rfl, _, Eq.trans (World.drewN_drewN _ _ _) (congrArg (World.drewN _) (Nat.add_assoc _ _ _))⟩)))
       repeat (go_quiet (first | (go_at_call 22; (with_reducible refine (impl_WordOk.calls k1 a0_0 true _ A21.out).mono ?_); rintro e w' ⟨rfl, ⟨nd, rfl⟩⟩; (try first | exact ⟨rfl, _, World.drewN_drewN _ _ _⟩ | exact ⟨rfl, _, Eq.trans (World.drewN_drewN _ _ _) (congrArg (World.drewN _) (Nat.add_assoc _ _ _))⟩))); try go_wp2_with (first | (go_at_call 22; (with_reducible refine (impl_WordOk.calls k1 a0_0 true _ A21.out).mono ?_); rintro e w' ⟨rfl, ⟨nd, rfl⟩⟩; (try first | exact ⟨rfl, _, World.drewN_drewN _ _ _⟩ | exact ⟨rfl, _, Eq.trans (World.drewN_drewN _ _ _) (congrArg (World.drewN _) (Nat.add_assoc _ _ _))⟩))))
       go_ret
       exact ⟨rfe_, bl_⟩
     obtain rfl := Option.some.inj H
     have hcz24_0 := bc0_ BK126
     have hcz24_1 := bc1_ BK126
     have hfz24_0 := blk_frozen BK126.out 0
     have hfz24_1 := blk_frozen BK126.out 1
     go_wp2_with (first | (go_at_call 22; (with_reducible refine (impl_WordOk.calls k1 a0_0 false _ A21.out).mono ?_); rintro e w' ⟨rfl, ⟨nd, rfl⟩⟩; (try first | exact ⟨rfl, _, World.drewN_drewN _ _ _⟩ | exact ⟨rfl, _, Eq.trans (World.drewN_drewN _ _ _) (congrArg (World.drewN _) (Nat.add_assoc _ _ _))⟩)))
     repeat (go_quiet (first | (go_at_call 22; (with_reducible refine (impl_WordOk.calls k1 a0_0 false _ A21.out).mono ?_); rintro e w' ⟨rfl, ⟨nd, rfl⟩⟩; (try first | exact ⟨rfl, _, World.drewN_drewN _ _ _⟩ | exact ⟨rfl, _, Eq.trans (World.drewN_drewN _ _ _) (congrArg (World.drewN _) (Nat.add_assoc _ _ _))⟩))); try go_wp2_with (first | (go_at_call 22; (with_reducible refine (impl_WordOk.calls k1 a0_0 false _ A21.out).mono ?_); rintro e w' ⟨rfl, ⟨nd, rfl⟩⟩; (try first | exact ⟨rfl, _, World.drewN_drewN _ _ _⟩ | exact ⟨rfl, _, Eq.trans (World.drewN_drewN _ _ _) (congrArg (World.drewN _) (Nat.add_assoc _ _ _))⟩))))
     go_ret
     exact ⟨rfe_, bl_⟩
   replace H := ind_ H; obtain ⟨c5b0, H⟩ := H
   replace H := ind_ H; obtain ⟨c6b0, H⟩ := H
   replace H := Option.bind_eq_some_iff.mp H
   obtain ⟨t127, A80, H⟩ := H; try dsimp only at H
   have A8 := Aside0.mk A80
   clear A80
   replace H := iub_ H; rcases H with ⟨rfl, H⟩ | ⟨rfl, H⟩
   · obtain rfl := Option.some.inj H
     have hcz20_0 := bc0_ BK126
     have hcz20_1 := bc1_ BK126
     have hfz20_0 := blk_frozen BK126.out 0
     have hfz20_1 := blk_frozen BK126.out 1
     have p7 : 0 ≤ (x7_1 : Int) := od_
     have q7 : x7_1 < (a0_1.size : Int) := od_
     have hx7 := bt_at a0_1 x7_1
     replace p7 := eq_true p7; replace q7 := eq_true q7
     go_wp2_with (first | (go_at_call 78; (with_reducible refine (impl_upper.calls (bt a0_1 x7_1) false _ A8.out).mono ?_); rintro e w' ⟨rfl, ⟨nd, rfl⟩⟩; (try first | exact ⟨rfl, _, World.drewN_drewN _ _ _⟩ | exact ⟨rfl, _, Eq.trans (World.drewN_drewN _ _ _) (congrArg (World.drewN _) (Nat.add_assoc _ _ _))⟩)))
     repeat (go_quiet (first | (go_at_call 78; (with_reducible refine (impl_upper.calls (bt a0_1 x7_1) false _ A8.out).mono ?_); rintro e w' ⟨rfl, ⟨nd, rfl⟩⟩; (try first | exact ⟨rfl, _, World.drewN_drewN _ _ _⟩ | exact ⟨rfl, _, Eq.trans (World.drewN_drewN _ _ _) (congrArg (World.drewN _) (Nat.add_assoc _ _ _))⟩))); try go_wp2_with (first | (go_at_call 78; (with_reducible refine (impl_upper.calls (bt a0_1 x7_1) false _ A8.out).mono ?_); rintro e w' ⟨rfl, ⟨nd, rfl⟩⟩; (try first | exact ⟨rfl, _, World.drewN_drewN _ _ _⟩ | exact ⟨rfl, _, Eq.trans (World.drewN_drewN _ _ _) (congrArg (World.drewN _) (Nat.add_assoc _ _ _))⟩))))
     go_ret
     exact ⟨rfe_, bl_⟩
   replace H := iucc_ H; rcases H with ⟨c10, H⟩ | ⟨c10, H⟩
   · have c10b0 : decide (0 < x7_1) = false := decide_eq_false c10
     clear c10
     have H' := Aside0.mk H; clear H
     have hcz19_0 := bc0_ BK126
     have hcz19_1 := bc1_ BK126
     have hfz19_0 := blk_frozen BK126.out 0
     have hfz19_1 := blk_frozen BK126.out 1
     have p7 : 0 ≤ (x7_1 : Int) := od_
     have q7 : x7_1 < (a0_1.size : Int) := od_
     have hx7 := bt_at a0_1 x7_1
     replace p7 := eq_true p7; replace q7 := eq_true q7
     go_wp2_with (first | (go_at_call 78; (with_reducible refine (impl_upper.calls (bt a0_1 x7_1) true _ A8.out).mono ?_); rintro e w' ⟨rfl, ⟨nd, rfl⟩⟩; (try first | exact ⟨rfl, _, World.drewN_drewN _ _ _⟩ | exact ⟨rfl, _, Eq.trans (World.drewN_drewN _ _ _) (congrArg (World.drewN _) (Nat.add_assoc _ _ _))⟩)))
     repeat (go_quiet (first | (go_at_call 78; (with_reducible refine (impl_upper.calls (bt a0_1 x7_1) true _ A8.out).mono ?_); rintro e w' ⟨rfl, ⟨nd, rfl⟩⟩; (try first | exact ⟨rfl, _, World.drewN_drewN _ _ _⟩ | exact ⟨rfl, _, Eq.trans (World.drewN_drewN _ _ _) (congrArg (World.drewN _) (Nat.add_assoc _ _ _))⟩))); try go_wp2_with (first | (go_at_call 78; (with_reducible refine (impl_upper.calls (bt a0_1 x7_1) true _ A8.out).mono ?_); rintro e w' ⟨rfl, ⟨nd, rfl⟩⟩; (try first | exact ⟨rfl, _, World.drewN_drewN _ _ _⟩ | exact ⟨rfl, _, Eq.trans (World.drewN_drewN _ _ _) (congrArg (World.drewN _) (Nat.add_assoc _ _ _))⟩))))
     go_roundg k1
     case measure => have := HK1.out; omega
     case rel => exact ⟨(wrap64 (x7_1 + 1)), rf_, H', ⟨by have := HK1.out; omega⟩, ⟨by (with_reducible repeat (first | refine blk_drewN ?_ _ | refine blk_drew ?_ | refine blk_alloc ?_ _)); exact BK126.out⟩, ⟨bl_⟩⟩
   have c10b0 : decide (0 < x7_1) = true := decide_eq_true c10
   clear c10
   obtain ⟨ji11, hji11⟩ : ∃ j_ : Int, (wrap64 (x7_1 - 1)) = j_ := ⟨_, rfl⟩
   replace H : (if 0 ≤ (ji11) then (if (ji11) < (a0_1.size : Int) then (if (bt a0_1 (ji11)) ≥ (bt a0_1 x7_1) then (some false) else (impl_entryOk.l0 k1 (a0_1.size : Int) (wrap64 (x7_1 + 1)) a0_0 a0_1)) else (none)) else (none)) = some r := by first | (rw [hji11] at H; exact H) | (simp only [hji11] at H ⊢; exact H)
   (try rw [hji11] at A8)
   have hji11w : (IntKind.i64.wrap (x7_1 - 1)) = ji11 := (i64_w _).trans hji11
   replace H := ind_ H; obtain ⟨c12b0, H⟩ := H
   replace H := ind_ H; obtain ⟨c13b0, H⟩ := H
   replace H := itcc_ H; rcases H with ⟨c16, H⟩ | ⟨c16, H⟩
   · have c16b0 : decide ((bt a0_1 x7_1) ≤ (bt a0_1 (ji11))) = true := decide_eq_true c16
     clear c16
     obtain rfl := Option.some.inj H
     have hcz17_0 := bc0_ BK126
     have hcz17_1 := bc1_ BK126
     have hfz17_0 := blk_frozen BK126.out 0
     have hfz17_1 := blk_frozen BK126.out 1
     have p7 : 0 ≤ (x7_1 : Int) := od_
     have q7 : x7_1 < (a0_1.size : Int) := od_
     have hx7 := bt_at a0_1 x7_1
     replace p7 := eq_true p7; replace q7 := eq_true q7
     go_wp2_with (first | (go_at_call 78; (with_reducible refine (impl_upper.calls (bt a0_1 x7_1) true _ A8.out).mono ?_); rintro e w' ⟨rfl, ⟨nd, rfl⟩⟩; (try first | exact ⟨rfl, _, World.drewN_drewN _ _ _⟩ | exact ⟨rfl, _, Eq.trans (World.drewN_drewN _ _ _) (congrArg (World.drewN _) (Nat.add_assoc _ _ _))⟩); have p14 : 0 ≤ ((ji11) : Int) := od_; have q14 : (ji11) < (a0_1.size : Int) := od_; have hx14 := bt_at a0_1 (ji11); replace p14 := eq_true p14; replace q14 := eq_true q14; have p15 : 0 ≤ (x7_1 : Int) := od_; have q15 : x7_1 < (a0_1.size : Int) := od_; have hx15 := bt_at a0_1 x7_1; replace p15 := eq_true p15; replace q15 := eq_true q15))
     repeat (go_quiet (first | (go_at_call 78; (with_reducible refine (impl_upper.calls (bt a0_1 x7_1) true _ A8.out).mono ?_); rintro e w' ⟨rfl, ⟨nd, rfl⟩⟩; (try first | exact ⟨rfl, _, World.drewN_drewN _ _ _⟩ | exact ⟨rfl, _, Eq.trans (World.drewN_drewN _ _ _) (congrArg (World.drewN _) (Nat.add_assoc _ _ _))⟩); have p14 : 0 ≤ ((ji11) : Int) := od_; have q14 : (ji11) < (a0_1.size : Int) := od_; have hx14 := bt_at a0_1 (ji11); replace p14 := eq_true p14; replace q14 := eq_true q14; have p15 : 0 ≤ (x7_1 : Int) := od_; have q15 : x7_1 < (a0_1.size : Int) := od_; have hx15 := bt_at a0_1 x7_1; replace p15 := eq_true p15; replace q15 := eq_true q15)); try go_wp2_with (first | (go_at_call 78; (with_reducible refine (impl_upper.calls (bt a0_1 x7_1) true _ A8.out).mono ?_); rintro e w' ⟨rfl, ⟨nd, rfl⟩⟩; (try first | exact ⟨rfl, _, World.drewN_drewN _ _ _⟩ | exact ⟨rfl, _, Eq.trans (World.drewN_drewN _ _ _) (congrArg (World.drewN _) (Nat.add_assoc _ _ _))⟩); have p14 : 0 ≤ ((ji11) : Int) := od_; have q14 : (ji11) < (a0_1.size : Int) := od_; have hx14 := bt_at a0_1 (ji11); replace p14 := eq_true p14; replace q14 := eq_true q14; have p15 : 0 ≤ (x7_1 : Int) := od_; have q15 : x7_1 < (a0_1.size : Int) := od_; have hx15 := bt_at a0_1 x7_1; replace p15 := eq_true p15; replace q15 := eq_true q15)))
     go_ret
     exact ⟨by first | rfl | (simp [errW_none, errW_some] <;> rfl) | (simp only [← hji11]; first | rfl | (simp [errW_none, errW_some] <;> rfl)) | (simp [*, errW_none, errW_some] <;> rfl), bl_⟩
   have c16b0 : decide ((bt a0_1 x7_1) ≤ (bt a0_1 (ji11))) = false := decide_eq_false c16
   clear c16
   have H' := Aside0.mk H; clear H
   have hcz18_0 := bc0_ BK126
   have hcz18_1 := bc1_ BK126
   have hfz18_0 := blk_frozen BK126.out 0
   have hfz18_1 := blk_frozen BK126.out 1
   have p7 : 0 ≤ (x7_1 : Int) := od_
   have q7 : x7_1 < (a0_1.size : Int) := od_
   have hx7 := bt_at a0_1 x7_1
   replace p7 := eq_true p7; replace q7 := eq_true q7
   go_wp2_with (first | (go_at_call 78; (with_reducible refine (impl_upper.calls (bt a0_1 x7_1) true _ A8.out).mono ?_); rintro e w' ⟨rfl, ⟨nd, rfl⟩⟩; (try first | exact ⟨rfl, _, World.drewN_drewN _ _ _⟩ | exact ⟨rfl, _, Eq.trans (World.drewN_drewN _ _ _) (congrArg (World.drewN _) (Nat.add_assoc _ _ _))⟩); have p14 : 0 ≤ ((ji11) : Int) := od_; have q14 : (ji11) < (a0_1.size : Int) := od_; have hx14 := bt_at a0_1 (ji11); replace p14 := eq_true p14; replace q14 := eq_true q14; have p15 : 0 ≤ (x7_1 : Int) := od_; have q15 : x7_1 < (a0_1.size : Int) := od_; have hx15 := bt_at a0_1 x7_1; replace p15 := eq_true p15; replace q15 := eq_true q15))
   repeat (go_quiet (first | (go_at_call 78; (with_reducible refine (impl_upper.calls (bt a0_1 x7_1) true _ A8.out).mono ?_); rintro e w' ⟨rfl, ⟨nd, rfl⟩⟩; (try first | exact ⟨rfl, _, World.drewN_drewN _ _ _⟩ | exact ⟨rfl, _, Eq.trans (World.drewN_drewN _ _ _) (congrArg (World.drewN _) (Nat.add_assoc _ _ _))⟩); have p14 : 0 ≤ ((ji11) : Int) := od_; have q14 : (ji11) < (a0_1.size : Int) := od_; have hx14 := bt_at a0_1 (ji11); replace p14 := eq_true p14; replace q14 := eq_true q14; have p15 : 0 ≤ (x7_1 : Int) := od_; have q15 : x7_1 < (a0_1.size : Int) := od_; have hx15 := bt_at a0_1 x7_1; replace p15 := eq_true p15; replace q15 := eq_true q15)); try go_wp2_with (first | (go_at_call 78; (with_reducible refine (impl_upper.calls (bt a0_1 x7_1) true _ A8.out).mono ?_); rintro e w' ⟨rfl, ⟨nd, rfl⟩⟩; (try first | exact ⟨rfl, _, World.drewN_drewN _ _ _⟩ | exact ⟨rfl, _, Eq.trans (World.drewN_drewN _ _ _) (congrArg (World.drewN _) (Nat.add_assoc _ _ _))⟩); have p14 : 0 ≤ ((ji11) : Int) := od_; have q14 : (ji11) < (a0_1.size : Int) := od_; have hx14 := bt_at a0_1 (ji11); replace p14 := eq_true p14; replace q14 := eq_true q14; have p15 : 0 ≤ (x7_1 : Int) := od_; have q15 : x7_1 < (a0_1.size : Int) := od_; have hx15 := bt_at a0_1 x7_1; replace p15 := eq_true p15; replace q15 := eq_true q15)))
   go_roundg k1
   case measure => have := HK1.out; omega
   case rel => exact ⟨(wrap64 (x7_1 + 1)), rf_, H', ⟨by have := HK1.out; omega⟩, ⟨by (with_reducible repeat (first | refine blk_drewN ?_ _ | refine blk_drew ?_ | refine blk_alloc ?_ _)); exact BK126.out⟩, ⟨bl_⟩⟩

end Go.Proofs.Ytbopiacjioedeaa.P
