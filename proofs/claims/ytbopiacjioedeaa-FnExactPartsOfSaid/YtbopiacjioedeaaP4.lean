-- Written by a program of this session (wip/gen/gen.py) out of Lean's print of the loaded program; Lean checks it.
import Derived.Test.YtbopiacjioedeaaP0
import Derived.Test.YtbopiacjioedeaaSq2
import Derived.Test.YtbopiacjioedeaaP3
namespace Go.Proofs.Ytbopiacjioedeaa.P
open Go.RowKit Go.Proofs.YtbopiacjioedeaaW.PrintWords Go.Proofs.YtbopiacjioedeaaW.PrintLast Go.Proofs.YtbopiacjioedeaaW.PrintMore
attribute [local go_sem] max2_int min2_int max_two min_two max_three min_three max_four min_four IntKind.wrap_u8 IntKind.wrap_u32 w64_256 w64_u32
set_option maxHeartbeats 8000000
set_option maxRecDepth 100000
set_option linter.unusedVariables false
set_option linter.unusedSimpArgs false

/-! ### impl_entriesOk: function 44 -/
def impl_entriesOk.l0 : Nat → List (S73) → List (S73) → Int → Int → Option (Bool)
 | 0, _, _, _, _ => none
 | k + 1, x0, x5, x6, x7 => if x7 < x6 then (if 0 ≤ x7 then (if x7 < (x5.length : Int) then ((impl_entryOk.f k ((rd_T73 x5 x7).f0) ((rd_T73 x5 x7).f1)).bind fun t131 => (if t131 = true then (if x7 > 0 then (if 0 ≤ (wrap64 (x7 - 1)) then (if (wrap64 (x7 - 1)) < (x0.length : Int) then (if ((Op.bytesLess (((rd_T73 x0 (wrap64 (x7 - 1))).f0).toList) (((rd_T73 x5 x7).f0).toList)) = true) then (impl_entriesOk.l0 k x0 x5 x6 (wrap64 (x7 + 1))) else (some false)) else (none)) else (none)) else (impl_entriesOk.l0 k x0 x5 x6 (wrap64 (x7 + 1)))) else (some false))) else (none)) else (none)) else (some (decide ((x0.length : Int) ≤ 24)))
def impl_entriesOk.f (k : Nat) (l0 : List (S73)) : Option (Bool) := impl_entriesOk.l0 k l0 l0 (l0.length : Int) 0
theorem impl_entriesOk.mono_l : ∀ k, (∀ y0 y1 y2 y3, LeO (impl_entriesOk.l0 k y0 y1 y2 y3) (impl_entriesOk.l0 (k + 1) y0 y1 y2 y3))
 | 0 => fun _ _ _ _ r h => by simp [impl_entriesOk.l0] at h
 | k + 1 => by
  have ih0 := impl_entriesOk.mono_l k
  · intro y0 y1 y2 y3
    unfold impl_entriesOk.l0
    have m0 := @impl_entryOk.mono
    exact mn_
theorem impl_entriesOk.mono : ∀ a0 k, LeO (impl_entriesOk.f k a0) (impl_entriesOk.f (k + 1) a0) := by
 intro a0 k
 have ih0 := impl_entriesOk.mono_l k
 unfold impl_entriesOk.f
 have m0 := @impl_entryOk.mono
 exact mn_
def impl_entriesOk.T4 : Bool × List (List Nat × List Nat) := (true, [([], []), ([0], [0]), ([1], [1]), ([2, 1], [2]), ([3], [3]), ([4, 3], [3, 4]), ([5, 3, 3], [3, 5]), ([6], [6]), ([6], [6]), ([8, 6], [6, 8]), ([7, 9, 6], [6, 7, 9]), ([10, 6], [6, 10]), ([11, 6], [6, 11]), ([6], [6]), ([13, 6], [6, 13]), ([12, 14, 6], [6, 12, 14]), ([6, 15, 3], [3, 6, 15]), ([3, 16], [3, 16])])
def impl_entriesOk.B4 : List Nat := [0, 1, 3, 7, 15, 31, 63, 127, 127, 383, 1023, 2047, 4095, 127, 8319, 32767, 65535, 131071]
theorem impl_entriesOk.tab4 : rtab .any (opsOf Try.f44 4) = impl_entriesOk.T4 := by kernel_rfl
theorem impl_entriesOk.bits4 : waitsOk impl_entriesOk.T4.2 impl_entriesOk.B4 = true := by kernel_rfl
theorem impl_entriesOk.calls (k : Nat) (A0 : Option Addr) (c0 : Nat) (l0 : List (S73)) (r : Bool) (w : World) (hr0 : Kd.C k73 w A0 l0.length l0) (hc0 : l0.length ≤ c0) (h : impl_entriesOk.f k l0 = some r) :
 Calls Try.prog 44 #[.slice A0 l0.length c0] w fun e w' => e = .returned (.bool r) ∧ Below w.heap.size w w' := by
 have hu73 := Try.underlying73
 have HR0 := Aside0.mk hr0
 have HC0 := Aside0.mk hc0
 clear hr0 hc0
 have HB := Aside0.mk (Below.refl w.heap.size w)
 unfold impl_entriesOk.f at h; have H := h; clear h
 have H' := Aside0.mk H; clear H
 go_enter Try.func44, Try.ntmps44
 go_wp2
 go_loopg [7] k (fun kq v7 w' => ∃ (x7_1 : Int), v7 = .int .i64 x7_1 ∧ Aside0 (impl_entriesOk.l0 kq l0 l0 (l0.length : Int) x7_1 = some r) ∧ Aside0 (kq ≤ k) ∧ Aside0 (Below w.heap.size w w'))
 case atStart => exact ⟨(0), rf_, H', ⟨Nat.le_refl _⟩, ⟨bl_⟩⟩
 case round =>
  clear H'
  obtain ⟨x7_1, rfl, HA, HK1, HB⟩ := hrel
  cases gk with
  | zero => exact absurd HA.out (by simp [impl_entriesOk.l0])
  | succ k1 =>
   have H := HA.out
   clear HA
   simp only [impl_entriesOk.l0] at H
   replace H := iudd_ H; rcases H with ⟨c2b0, H⟩ | ⟨c2b0, H⟩
   · obtain rfl := Option.some.inj H
     go_wp2
     go_ret
     exact ⟨rfe_, bl_⟩
   replace H := ind_ H; obtain ⟨c3b0, H⟩ := H
   replace H := ind_ H; obtain ⟨c4b0, H⟩ := H
   replace H := Option.bind_eq_some_iff.mp H
   obtain ⟨t131, A50, H⟩ := H; try dsimp only at H
   have A5 := Aside0.mk A50
   clear A50
   replace H := iub_ H; rcases H with ⟨rfl, H⟩ | ⟨rfl, H⟩
   · obtain rfl := Option.some.inj H
     have p129 : 0 ≤ (x7_1 : Int) := od_
     have q129 : x7_1 < (l0.length : Int) := od_
     obtain ⟨ad129, e129, hx129_0, hx129_1⟩ := at_T73 HR0.out x7_1 p129 q129
     cases e129
     replace hx129_0 := hc_ HB hx129_0
     replace hx129_1 := hc_ HB hx129_1
     replace p129 := eq_true p129; replace q129 := eq_true q129
     try go_wp2_with (first | ((with_reducible refine gate_dst (N := 4) rfl ?_); refine be_ 4 73 #[.string (⟨#[]⟩ : ByteArray), .string (⟨#[]⟩ : ByteArray)] ?_; intro gb130 hg w27 hbox hb; have BK130 := Aside0.mk (hbox); have GW130 := Aside0.mk ((gs_ hg : w.heap.size ≤ gb130)); have GE130 := Aside0.mk ((gs_ hg : w.heap.size ≤ gb130)); replace HB := Aside0.mk (below_step (bl_) hb); clear hb hbox hg; have hcz28_0 := bc0_ BK130; have hcz28_1 := bc1_ BK130; have hfz28_0 := blk_frozen BK130.out 0; have hfz28_1 := blk_frozen BK130.out 1))
     have n0_ : Aside0 (((w27.setCell ⟨gb130, 0, none⟩ (.string ((rd_T73 l0 x7_1).f0))).setCell ⟨gb130, 1, none⟩ (.string ((rd_T73 l0 x7_1).f1))).heap[gb130]? = some (.cells #[.string ((rd_T73 l0 x7_1).f0), .string ((rd_T73 l0 x7_1).f1)] 73 (0, 0))) := ⟨by (with_reducible repeat (first | refine blk_drewN ?_ _ | refine blk_drew ?_ | refine blk_alloc ?_ _)); refine blk_put (cs := #[.string ((rd_T73 l0 x7_1).f0), .string (⟨#[]⟩ : ByteArray)]) ?_ 1 _ rfl; (with_reducible repeat (first | refine blk_drewN ?_ _ | refine blk_drew ?_ | refine blk_alloc ?_ _)); refine blk_put (cs := #[.string (⟨#[]⟩ : ByteArray), .string (⟨#[]⟩ : ByteArray)]) ?_ 0 _ rfl; (with_reducible repeat (first | refine blk_drewN ?_ _ | refine blk_drew ?_ | refine blk_alloc ?_ _)); exact BK130.out⟩
     have n1_ : Aside0 (Below w.heap.size w ((w27.setCell ⟨gb130, 0, none⟩ (.string ((rd_T73 l0 x7_1).f0))).setCell ⟨gb130, 1, none⟩ (.string ((rd_T73 l0 x7_1).f1)))) := ⟨bl_⟩
     (try clear BK130)
     (try clear HB)
     generalize ((w27.setCell ⟨gb130, 0, none⟩ (.string ((rd_T73 l0 x7_1).f0))).setCell ⟨gb130, 1, none⟩ (.string ((rd_T73 l0 x7_1).f1))) = w29 at n0_ n1_ ⊢
     have BK130 := n0_
     have HB := n1_
     clear n0_ n1_
     replace BK130 := Aside0.mk (blk_drew BK130.out)
     replace HB := Aside0.mk (below_drew1 HB.out)
     refine start_ (n := 18) (S := fun w' => w'.cell? ⟨gb130, 0, none⟩ = some (.string ((rd_T73 l0 x7_1).f0)) ∧ w'.cell? ⟨gb130, 1, none⟩ = some (.string ((rd_T73 l0 x7_1).f1))) (ds := []) (bm 18 0) (by kernel_rfl) rfl rfl ⟨(blk_cell BK130.out 0).trans rfl, (blk_cell BK130.out 1).trans rfl⟩ (fun hHeld => ?_); refine with_tabW impl_entriesOk.tab4 impl_entriesOk.bits4 (fun HT_ HW_ => ?_)
     generalize w29.drew = w30 at BK130 HB hHeld ⊢
     refine sr_ 0 (some 12) (bm 18 1) HT_ HW_ hHeld (h := ?_)
     refine sn_ 1 (some 13) (bm 18 3) HT_ (fun K hK => ?_)
     refine goes_ Try.func68 (by kernel_rfl) rfl #[.agg #[.string ((rd_T73 l0 x7_1).f0), .string ((rd_T73 l0 x7_1).f1)]] (by rfl) rfl rfl (by (try simp only [List.map_toArray, List.map_cons, List.map_nil]); first | done | rfl | (simp only [List.length_drop, List.length_take]; rfl)) ?_
     with_reducible refine (impl_entryOk.calls k1 ((rd_T73 l0 x7_1).f0) ((rd_T73 l0 x7_1).f1) false _ A5.out).mono ?_
     rintro e w31 ⟨rfl, hb⟩
     refine ⟨_, rfl, ?_⟩
     replace BK130 := Aside0.mk (blk_below (bk_ BK130) hb)
     replace HB := Aside0.mk (below_step (bl_) hb)
     (try clear hb)
     (try clear hb2)
     (try clear hk)
     (try clear hi)
     refine hK.out _ _ ⟨(blk_cell BK130.out 0).trans rfl, (blk_cell BK130.out 1).trans rfl⟩ (fun hHeld => ?_)
     clear hK K
     refine nm_ ?_
     refine sp_ 2 (some 14) (bm 18 7) HT_ (h := ?_)
     refine sp_ 3 (some 15) (bm 18 15) HT_ (h := ?_)
     refine so_ 4 (some 16) (bm 18 31) HT_ (h := ?_)
     refine so_ 5 (some 17) (bm 18 63) HT_ (h := ?_)
     refine so_ 6 (some 18) (bm 18 127) HT_ (h := ?_)
     refine so_ 7 (some 19) (bm 18 255) HT_ (h := ?_)
     refine so_ 8 (some 20) (bm 18 511) HT_ (h := ?_)
     refine so_ 9 (some 21) (bm 18 1023) HT_ (h := ?_)
     refine so_ 10 (some 22) (bm 18 2047) HT_ (h := ?_)
     refine so_ 11 (some 23) (bm 18 4095) HT_ (h := ?_)
     refine so_ 12 (some 24) (bm 18 8191) HT_ (h := ?_)
     refine so_ 13 (some 25) (bm 18 16383) HT_ (h := ?_)
     refine so_ 14 (some 26) (bm 18 32767) HT_ (h := ?_)
     refine so_ 15 (some 27) (bm 18 65535) HT_ (h := ?_)
     refine so_ 16 (some 28) (bm 18 131071) HT_ (h := ?_)
     refine sp_ 17 (some 29) (bm 18 262143) HT_ (h := ?_)
     refine done_ (done_of HT_.out (by kernel_rfl)) ?_
     try go_wp2
     go_ret
     exact ⟨rfe_, bl_⟩
   replace H := iucc_ H; rcases H with ⟨c7, H⟩ | ⟨c7, H⟩
   · have c7b0 : decide (0 < x7_1) = false := decide_eq_false c7
     clear c7
     have H' := Aside0.mk H; clear H
     have p129 : 0 ≤ (x7_1 : Int) := od_
     have q129 : x7_1 < (l0.length : Int) := od_
     obtain ⟨ad129, e129, hx129_0, hx129_1⟩ := at_T73 HR0.out x7_1 p129 q129
     cases e129
     replace hx129_0 := hc_ HB hx129_0
     replace hx129_1 := hc_ HB hx129_1
     replace p129 := eq_true p129; replace q129 := eq_true q129
     try go_wp2_with (first | ((with_reducible refine gate_dst (N := 4) rfl ?_); refine be_ 4 73 #[.string (⟨#[]⟩ : ByteArray), .string (⟨#[]⟩ : ByteArray)] ?_; intro gb130 hg w22 hbox hb; have BK130 := Aside0.mk (hbox); have GW130 := Aside0.mk ((gs_ hg : w.heap.size ≤ gb130)); have GE130 := Aside0.mk ((gs_ hg : w.heap.size ≤ gb130)); replace HB := Aside0.mk (below_step (bl_) hb); clear hb hbox hg; have hcz23_0 := bc0_ BK130; have hcz23_1 := bc1_ BK130; have hfz23_0 := blk_frozen BK130.out 0; have hfz23_1 := blk_frozen BK130.out 1))
     have n0_ : Aside0 (((w22.setCell ⟨gb130, 0, none⟩ (.string ((rd_T73 l0 x7_1).f0))).setCell ⟨gb130, 1, none⟩ (.string ((rd_T73 l0 x7_1).f1))).heap[gb130]? = some (.cells #[.string ((rd_T73 l0 x7_1).f0), .string ((rd_T73 l0 x7_1).f1)] 73 (0, 0))) := ⟨by (with_reducible repeat (first | refine blk_drewN ?_ _ | refine blk_drew ?_ | refine blk_alloc ?_ _)); refine blk_put (cs := #[.string ((rd_T73 l0 x7_1).f0), .string (⟨#[]⟩ : ByteArray)]) ?_ 1 _ rfl; (with_reducible repeat (first | refine blk_drewN ?_ _ | refine blk_drew ?_ | refine blk_alloc ?_ _)); refine blk_put (cs := #[.string (⟨#[]⟩ : ByteArray), .string (⟨#[]⟩ : ByteArray)]) ?_ 0 _ rfl; (with_reducible repeat (first | refine blk_drewN ?_ _ | refine blk_drew ?_ | refine blk_alloc ?_ _)); exact BK130.out⟩
     have n1_ : Aside0 (Below w.heap.size w ((w22.setCell ⟨gb130, 0, none⟩ (.string ((rd_T73 l0 x7_1).f0))).setCell ⟨gb130, 1, none⟩ (.string ((rd_T73 l0 x7_1).f1)))) := ⟨bl_⟩
     (try clear BK130)
     (try clear HB)
     generalize ((w22.setCell ⟨gb130, 0, none⟩ (.string ((rd_T73 l0 x7_1).f0))).setCell ⟨gb130, 1, none⟩ (.string ((rd_T73 l0 x7_1).f1))) = w24 at n0_ n1_ ⊢
     have BK130 := n0_
     have HB := n1_
     clear n0_ n1_
     replace BK130 := Aside0.mk (blk_drew BK130.out)
     replace HB := Aside0.mk (below_drew1 HB.out)
     refine start_ (n := 18) (S := fun w' => w'.cell? ⟨gb130, 0, none⟩ = some (.string ((rd_T73 l0 x7_1).f0)) ∧ w'.cell? ⟨gb130, 1, none⟩ = some (.string ((rd_T73 l0 x7_1).f1))) (ds := []) (bm 18 0) (by kernel_rfl) rfl rfl ⟨(blk_cell BK130.out 0).trans rfl, (blk_cell BK130.out 1).trans rfl⟩ (fun hHeld => ?_); refine with_tabW impl_entriesOk.tab4 impl_entriesOk.bits4 (fun HT_ HW_ => ?_)
     generalize w24.drew = w25 at BK130 HB hHeld ⊢
     refine sr_ 0 (some 12) (bm 18 1) HT_ HW_ hHeld (h := ?_)
     refine sn_ 1 (some 13) (bm 18 3) HT_ (fun K hK => ?_)
     refine goes_ Try.func68 (by kernel_rfl) rfl #[.agg #[.string ((rd_T73 l0 x7_1).f0), .string ((rd_T73 l0 x7_1).f1)]] (by rfl) rfl rfl (by (try simp only [List.map_toArray, List.map_cons, List.map_nil]); first | done | rfl | (simp only [List.length_drop, List.length_take]; rfl)) ?_
     with_reducible refine (impl_entryOk.calls k1 ((rd_T73 l0 x7_1).f0) ((rd_T73 l0 x7_1).f1) true _ A5.out).mono ?_
     rintro e w26 ⟨rfl, hb⟩
     refine ⟨_, rfl, ?_⟩
     replace BK130 := Aside0.mk (blk_below (bk_ BK130) hb)
     replace HB := Aside0.mk (below_step (bl_) hb)
     (try clear hb)
     (try clear hb2)
     (try clear hk)
     (try clear hi)
     refine hK.out _ _ ⟨(blk_cell BK130.out 0).trans rfl, (blk_cell BK130.out 1).trans rfl⟩ (fun hHeld => ?_)
     clear hK K
     refine nm_ ?_
     refine sp_ 2 (some 14) (bm 18 7) HT_ (h := ?_)
     refine sp_ 3 (some 15) (bm 18 15) HT_ (h := ?_)
     refine sp_ 4 (some 16) (bm 18 31) HT_ (h := ?_)
     refine sp_ 5 (some 17) (bm 18 63) HT_ (h := ?_)
     refine sp_ 6 (some 18) (bm 18 127) HT_ (h := ?_)
     refine so_ 7 (some 19) (bm 18 255) HT_ (h := ?_)
     refine so_ 8 (some 20) (bm 18 511) HT_ (h := ?_)
     refine so_ 9 (some 21) (bm 18 1023) HT_ (h := ?_)
     refine so_ 10 (some 22) (bm 18 2047) HT_ (h := ?_)
     refine so_ 11 (some 23) (bm 18 4095) HT_ (h := ?_)
     refine so_ 12 (some 24) (bm 18 8191) HT_ (h := ?_)
     refine so_ 13 (some 25) (bm 18 16383) HT_ (h := ?_)
     refine so_ 14 (some 26) (bm 18 32767) HT_ (h := ?_)
     refine so_ 15 (some 27) (bm 18 65535) HT_ (h := ?_)
     refine sp_ 16 (some 28) (bm 18 131071) HT_ (h := ?_)
     refine sp_ 17 (some 29) (bm 18 262143) HT_ (h := ?_)
     refine done_ (done_of HT_.out (by kernel_rfl)) ?_
     try go_wp2
     go_roundg k1
     case measure => have := HK1.out; omega
     case rel => exact ⟨(wrap64 (x7_1 + 1)), rf_, H', ⟨by have := HK1.out; omega⟩, ⟨bl_⟩⟩
   have c7b0 : decide (0 < x7_1) = true := decide_eq_true c7
   clear c7
   obtain ⟨ji8, hji8⟩ : ∃ j_ : Int, (wrap64 (x7_1 - 1)) = j_ := ⟨_, rfl⟩
   replace H : (if 0 ≤ (ji8) then (if (ji8) < (l0.length : Int) then (if ((Op.bytesLess (((rd_T73 l0 (ji8)).f0).toList) (((rd_T73 l0 x7_1).f0).toList)) = true) then (impl_entriesOk.l0 k1 l0 l0 (l0.length : Int) (wrap64 (x7_1 + 1))) else (some false)) else (none)) else (none)) = some r := by first | (rw [hji8] at H; exact H) | (simp only [hji8] at H ⊢; exact H)
   (try rw [hji8] at A5)
   have hji8w : (IntKind.i64.wrap (x7_1 - 1)) = ji8 := (i64_w _).trans hji8
   replace H := ind_ H; obtain ⟨c9b0, H⟩ := H
   replace H := ind_ H; obtain ⟨c10b0, H⟩ := H
   replace H := itcc_ H; rcases H with ⟨c11, H⟩ | ⟨c11, H⟩
   · have c11b0 : (Op.bytesLess (((rd_T73 l0 (ji8)).f0).toList) (((rd_T73 l0 x7_1).f0).toList)) = true := c11
     clear c11
     have H' := Aside0.mk H; clear H
     have p129 : 0 ≤ (x7_1 : Int) := od_
     have q129 : x7_1 < (l0.length : Int) := od_
     obtain ⟨ad129, e129, hx129_0, hx129_1⟩ := at_T73 HR0.out x7_1 p129 q129
     cases e129
     replace hx129_0 := hc_ HB hx129_0
     replace hx129_1 := hc_ HB hx129_1
     replace p129 := eq_true p129; replace q129 := eq_true q129
     try go_wp2_with (first | ((with_reducible refine gate_dst (N := 4) rfl ?_); refine be_ 4 73 #[.string (⟨#[]⟩ : ByteArray), .string (⟨#[]⟩ : ByteArray)] ?_; intro gb130 hg w12 hbox hb; have BK130 := Aside0.mk (hbox); have GW130 := Aside0.mk ((gs_ hg : w.heap.size ≤ gb130)); have GE130 := Aside0.mk ((gs_ hg : w.heap.size ≤ gb130)); replace HB := Aside0.mk (below_step (bl_) hb); clear hb hbox hg; have hcz13_0 := bc0_ BK130; have hcz13_1 := bc1_ BK130; have hfz13_0 := blk_frozen BK130.out 0; have hfz13_1 := blk_frozen BK130.out 1))
     have n0_ : Aside0 (((w12.setCell ⟨gb130, 0, none⟩ (.string ((rd_T73 l0 x7_1).f0))).setCell ⟨gb130, 1, none⟩ (.string ((rd_T73 l0 x7_1).f1))).heap[gb130]? = some (.cells #[.string ((rd_T73 l0 x7_1).f0), .string ((rd_T73 l0 x7_1).f1)] 73 (0, 0))) := ⟨by (with_reducible repeat (first | refine blk_drewN ?_ _ | refine blk_drew ?_ | refine blk_alloc ?_ _)); refine blk_put (cs := #[.string ((rd_T73 l0 x7_1).f0), .string (⟨#[]⟩ : ByteArray)]) ?_ 1 _ rfl; (with_reducible repeat (first | refine blk_drewN ?_ _ | refine blk_drew ?_ | refine blk_alloc ?_ _)); refine blk_put (cs := #[.string (⟨#[]⟩ : ByteArray), .string (⟨#[]⟩ : ByteArray)]) ?_ 0 _ rfl; (with_reducible repeat (first | refine blk_drewN ?_ _ | refine blk_drew ?_ | refine blk_alloc ?_ _)); exact BK130.out⟩
     have n1_ : Aside0 (Below w.heap.size w ((w12.setCell ⟨gb130, 0, none⟩ (.string ((rd_T73 l0 x7_1).f0))).setCell ⟨gb130, 1, none⟩ (.string ((rd_T73 l0 x7_1).f1)))) := ⟨bl_⟩
     (try clear BK130)
     (try clear HB)
     generalize ((w12.setCell ⟨gb130, 0, none⟩ (.string ((rd_T73 l0 x7_1).f0))).setCell ⟨gb130, 1, none⟩ (.string ((rd_T73 l0 x7_1).f1))) = w14 at n0_ n1_ ⊢
     have BK130 := n0_
     have HB := n1_
     clear n0_ n1_
     replace BK130 := Aside0.mk (blk_drew BK130.out)
     replace HB := Aside0.mk (below_drew1 HB.out)
     have p132 : 0 ≤ ((ji8) : Int) := od_
     have q132 : (ji8) < (l0.length : Int) := od_
     obtain ⟨ad132, e132, hx132_0, hx132_1⟩ := at_T73 HR0.out (ji8) p132 q132
     have hw132_1 := hx132_1
     have hw132_0 := hx132_0
     obtain rfl : ad129 = ad132 := (by injection e132)
     replace hx132_0 := hc_ HB hx132_0
     replace hx132_1 := hc_ HB hx132_1
     replace p132 := eq_true p132; replace q132 := eq_true q132
     refine start_ (n := 18) (S := fun w' => w'.cell? ⟨gb130, 0, none⟩ = some (.string ((rd_T73 l0 x7_1).f0)) ∧ w'.cell? ⟨gb130, 1, none⟩ = some (.string ((rd_T73 l0 x7_1).f1)) ∧ w'.cell? (ad129.add (((ji8)).toNat * 2)) = some (.string ((rd_T73 l0 (ji8)).f0)) ∧ w'.cell? ⟨(ad129.add (((ji8)).toNat * 2)).block, (ad129.add (((ji8)).toNat * 2)).off + 1, none⟩ = some (.string ((rd_T73 l0 (ji8)).f1))) (ds := []) (bm 18 0) (by kernel_rfl) rfl rfl ⟨(blk_cell BK130.out 0).trans rfl, (blk_cell BK130.out 1).trans rfl, ((HB.out.cell (World.block_lt_of_cell? w _ hw132_0)).trans hw132_0), ((HB.out.cell (World.block_lt_of_cell? w _ hw132_1)).trans hw132_1)⟩ (fun hHeld => ?_); refine with_tabW impl_entriesOk.tab4 impl_entriesOk.bits4 (fun HT_ HW_ => ?_)
     generalize w14.drew = w15 at BK130 HB hx132_0 hx132_1 hHeld ⊢
     refine sr_ 0 (some 12) (bm 18 1) HT_ HW_ hHeld (h := ?_)
     refine sn_ 1 (some 13) (bm 18 3) HT_ (fun K hK => ?_)
     refine goes_ Try.func68 (by kernel_rfl) rfl #[.agg #[.string ((rd_T73 l0 x7_1).f0), .string ((rd_T73 l0 x7_1).f1)]] (by rfl) rfl rfl (by (try simp only [List.map_toArray, List.map_cons, List.map_nil]); first | done | rfl | (simp only [List.length_drop, List.length_take]; rfl)) ?_
     with_reducible refine (impl_entryOk.calls k1 ((rd_T73 l0 x7_1).f0) ((rd_T73 l0 x7_1).f1) true _ A5.out).mono ?_
     rintro e w16 ⟨rfl, hb⟩
     refine ⟨_, rfl, ?_⟩
     replace BK130 := Aside0.mk (blk_below (bk_ BK130) hb)
     replace HB := Aside0.mk (below_step (bl_) hb)
     (try clear hb)
     (try clear hb2)
     (try clear hk)
     (try clear hi)
     refine hK.out _ _ ⟨(blk_cell BK130.out 0).trans rfl, (blk_cell BK130.out 1).trans rfl, ((HB.out.cell (World.block_lt_of_cell? w _ hw132_0)).trans hw132_0), ((HB.out.cell (World.block_lt_of_cell? w _ hw132_1)).trans hw132_1)⟩ (fun hHeld => ?_)
     clear hK K
     refine nm_ ?_
     refine sp_ 2 (some 14) (bm 18 7) HT_ (h := ?_)
     refine sp_ 3 (some 15) (bm 18 15) HT_ (h := ?_)
     refine sp_ 4 (some 16) (bm 18 31) HT_ (h := ?_)
     refine sp_ 5 (some 17) (bm 18 63) HT_ (h := ?_)
     refine sp_ 6 (some 18) (bm 18 127) HT_ (h := ?_)
     refine sp_ 7 (some 19) (bm 18 255) HT_ (h := ?_)
     refine sp_ 8 (some 20) (bm 18 511) HT_ (h := ?_)
     refine sp_ 9 (some 21) (bm 18 1023) HT_ (h := ?_)
     refine sp_ 10 (some 22) (bm 18 2047) HT_ (h := ?_)
     refine sp_ 11 (some 23) (bm 18 4095) HT_ (h := ?_)
     refine sp_ 13 (some 25) (bm 18 12287) HT_ (h := ?_)
     refine sr_ 12 (some 24) (bm 18 16383) HT_ HW_ hHeld (h := ?_)
     refine sr_ 14 (some 26) (bm 18 32767) HT_ HW_ hHeld (h := ?_)
     refine sp_ 15 (some 27) (bm 18 65535) HT_ (h := ?_)
     refine sp_ 16 (some 28) (bm 18 131071) HT_ (h := ?_)
     refine sp_ 17 (some 29) (bm 18 262143) HT_ (h := ?_)
     refine done_ (done_of HT_.out (by kernel_rfl)) ?_
     try go_wp2
     go_roundg k1
     case measure => have := HK1.out; omega
     case rel => exact ⟨(wrap64 (x7_1 + 1)), rf_, H', ⟨by have := HK1.out; omega⟩, ⟨bl_⟩⟩
   have c11b0 : (Op.bytesLess (((rd_T73 l0 (ji8)).f0).toList) (((rd_T73 l0 x7_1).f0).toList)) = false := by simpa using c11
   clear c11
   obtain rfl := Option.some.inj H
   have p129 : 0 ≤ (x7_1 : Int) := od_
   have q129 : x7_1 < (l0.length : Int) := od_
   obtain ⟨ad129, e129, hx129_0, hx129_1⟩ := at_T73 HR0.out x7_1 p129 q129
   cases e129
   replace hx129_0 := hc_ HB hx129_0
   replace hx129_1 := hc_ HB hx129_1
   replace p129 := eq_true p129; replace q129 := eq_true q129
   try go_wp2_with (first | ((with_reducible refine gate_dst (N := 4) rfl ?_); refine be_ 4 73 #[.string (⟨#[]⟩ : ByteArray), .string (⟨#[]⟩ : ByteArray)] ?_; intro gb130 hg w17 hbox hb; have BK130 := Aside0.mk (hbox); have GW130 := Aside0.mk ((gs_ hg : w.heap.size ≤ gb130)); have GE130 := Aside0.mk ((gs_ hg : w.heap.size ≤ gb130)); replace HB := Aside0.mk (below_step (bl_) hb); clear hb hbox hg; have hcz18_0 := bc0_ BK130; have hcz18_1 := bc1_ BK130; have hfz18_0 := blk_frozen BK130.out 0; have hfz18_1 := blk_frozen BK130.out 1))
   have n0_ : Aside0 (((w17.setCell ⟨gb130, 0, none⟩ (.string ((rd_T73 l0 x7_1).f0))).setCell ⟨gb130, 1, none⟩ (.string ((rd_T73 l0 x7_1).f1))).heap[gb130]? = some (.cells #[.string ((rd_T73 l0 x7_1).f0), .string ((rd_T73 l0 x7_1).f1)] 73 (0, 0))) := ⟨by (with_reducible repeat (first | refine blk_drewN ?_ _ | refine blk_drew ?_ | refine blk_alloc ?_ _)); refine blk_put (cs := #[.string ((rd_T73 l0 x7_1).f0), .string (⟨#[]⟩ : ByteArray)]) ?_ 1 _ rfl; (with_reducible repeat (first | refine blk_drewN ?_ _ | refine blk_drew ?_ | refine blk_alloc ?_ _)); refine blk_put (cs := #[.string (⟨#[]⟩ : ByteArray), .string (⟨#[]⟩ : ByteArray)]) ?_ 0 _ rfl; (with_reducible repeat (first | refine blk_drewN ?_ _ | refine blk_drew ?_ | refine blk_alloc ?_ _)); exact BK130.out⟩
   have n1_ : Aside0 (Below w.heap.size w ((w17.setCell ⟨gb130, 0, none⟩ (.string ((rd_T73 l0 x7_1).f0))).setCell ⟨gb130, 1, none⟩ (.string ((rd_T73 l0 x7_1).f1)))) := ⟨bl_⟩
   (try clear BK130)
   (try clear HB)
   generalize ((w17.setCell ⟨gb130, 0, none⟩ (.string ((rd_T73 l0 x7_1).f0))).setCell ⟨gb130, 1, none⟩ (.string ((rd_T73 l0 x7_1).f1))) = w19 at n0_ n1_ ⊢
   have BK130 := n0_
   have HB := n1_
   clear n0_ n1_
   replace BK130 := Aside0.mk (blk_drew BK130.out)
   replace HB := Aside0.mk (below_drew1 HB.out)
   have p132 : 0 ≤ ((ji8) : Int) := od_
   have q132 : (ji8) < (l0.length : Int) := od_
   obtain ⟨ad132, e132, hx132_0, hx132_1⟩ := at_T73 HR0.out (ji8) p132 q132
   have hw132_1 := hx132_1
   have hw132_0 := hx132_0
   obtain rfl : ad129 = ad132 := (by injection e132)
   replace hx132_0 := hc_ HB hx132_0
   replace hx132_1 := hc_ HB hx132_1
   replace p132 := eq_true p132; replace q132 := eq_true q132
   refine start_ (n := 18) (S := fun w' => w'.cell? ⟨gb130, 0, none⟩ = some (.string ((rd_T73 l0 x7_1).f0)) ∧ w'.cell? ⟨gb130, 1, none⟩ = some (.string ((rd_T73 l0 x7_1).f1)) ∧ w'.cell? (ad129.add (((ji8)).toNat * 2)) = some (.string ((rd_T73 l0 (ji8)).f0)) ∧ w'.cell? ⟨(ad129.add (((ji8)).toNat * 2)).block, (ad129.add (((ji8)).toNat * 2)).off + 1, none⟩ = some (.string ((rd_T73 l0 (ji8)).f1))) (ds := []) (bm 18 0) (by kernel_rfl) rfl rfl ⟨(blk_cell BK130.out 0).trans rfl, (blk_cell BK130.out 1).trans rfl, ((HB.out.cell (World.block_lt_of_cell? w _ hw132_0)).trans hw132_0), ((HB.out.cell (World.block_lt_of_cell? w _ hw132_1)).trans hw132_1)⟩ (fun hHeld => ?_); refine with_tabW impl_entriesOk.tab4 impl_entriesOk.bits4 (fun HT_ HW_ => ?_)
   generalize w19.drew = w20 at BK130 HB hx132_0 hx132_1 hHeld ⊢
   refine sr_ 0 (some 12) (bm 18 1) HT_ HW_ hHeld (h := ?_)
   refine sn_ 1 (some 13) (bm 18 3) HT_ (fun K hK => ?_)
   refine goes_ Try.func68 (by kernel_rfl) rfl #[.agg #[.string ((rd_T73 l0 x7_1).f0), .string ((rd_T73 l0 x7_1).f1)]] (by rfl) rfl rfl (by (try simp only [List.map_toArray, List.map_cons, List.map_nil]); first | done | rfl | (simp only [List.length_drop, List.length_take]; rfl)) ?_
   with_reducible refine (impl_entryOk.calls k1 ((rd_T73 l0 x7_1).f0) ((rd_T73 l0 x7_1).f1) true _ A5.out).mono ?_
   rintro e w21 ⟨rfl, hb⟩
   refine ⟨_, rfl, ?_⟩
   replace BK130 := Aside0.mk (blk_below (bk_ BK130) hb)
   replace HB := Aside0.mk (below_step (bl_) hb)
   (try clear hb)
   (try clear hb2)
   (try clear hk)
   (try clear hi)
   refine hK.out _ _ ⟨(blk_cell BK130.out 0).trans rfl, (blk_cell BK130.out 1).trans rfl, ((HB.out.cell (World.block_lt_of_cell? w _ hw132_0)).trans hw132_0), ((HB.out.cell (World.block_lt_of_cell? w _ hw132_1)).trans hw132_1)⟩ (fun hHeld => ?_)
   clear hK K
   refine nm_ ?_
   refine sp_ 2 (some 14) (bm 18 7) HT_ (h := ?_)
   refine sp_ 3 (some 15) (bm 18 15) HT_ (h := ?_)
   refine sp_ 4 (some 16) (bm 18 31) HT_ (h := ?_)
   refine sp_ 5 (some 17) (bm 18 63) HT_ (h := ?_)
   refine sp_ 6 (some 18) (bm 18 127) HT_ (h := ?_)
   refine sp_ 7 (some 19) (bm 18 255) HT_ (h := ?_)
   refine sp_ 8 (some 20) (bm 18 511) HT_ (h := ?_)
   refine sp_ 9 (some 21) (bm 18 1023) HT_ (h := ?_)
   refine sp_ 10 (some 22) (bm 18 2047) HT_ (h := ?_)
   refine sp_ 11 (some 23) (bm 18 4095) HT_ (h := ?_)
   refine sp_ 13 (some 25) (bm 18 12287) HT_ (h := ?_)
   refine sr_ 12 (some 24) (bm 18 16383) HT_ HW_ hHeld (h := ?_)
   refine sr_ 14 (some 26) (bm 18 32767) HT_ HW_ hHeld (h := ?_)
   refine sp_ 15 (some 27) (bm 18 65535) HT_ (h := ?_)
   refine sp_ 16 (some 28) (bm 18 131071) HT_ (h := ?_)
   refine sp_ 17 (some 29) (bm 18 262143) HT_ (h := ?_)
   refine done_ (done_of HT_.out (by kernel_rfl)) ?_
   try go_wp2
   go_ret
   exact ⟨by first | rfl | (simp [errW_none, errW_some] <;> rfl) | (simp only [← hji8]; first | rfl | (simp [errW_none, errW_some] <;> rfl)) | (simp [*, errW_none, errW_some] <;> rfl), bl_⟩

/-! ### impl_BookOk: function 21 -/
def impl_BookOk.f (k : Nat) (l0_0 : List (S68)) (l0_1 : List (S73)) : Option (Bool) := (impl_affixesOk.f k l0_0).bind fun t134 => (if t134 = true then ((impl_entriesOk.f k l0_1).bind fun t135 => (some t135)) else (some false))
theorem impl_BookOk.mono : ∀ a0 a1 k, LeO (impl_BookOk.f k a0 a1) (impl_BookOk.f (k + 1) a0 a1) := by
 intro a0 a1 k
 unfold impl_BookOk.f
 have m0 := @impl_affixesOk.mono
 have m1 := @impl_entriesOk.mono
 exact mn_
theorem impl_BookOk.calls (k : Nat) (A0_0 : Option Addr) (c0_0 : Nat) (l0_0 : List (S68)) (A0_1 : Option Addr) (c0_1 : Nat) (l0_1 : List (S73)) (r : Bool) (w : World) (hr0_0 : Kd.C k68 w A0_0 l0_0.length l0_0) (hc0_0 : l0_0.length ≤ c0_0) (hr0_1 : Kd.C k73 w A0_1 l0_1.length l0_1) (hc0_1 : l0_1.length ≤ c0_1) (h : impl_BookOk.f k l0_0 l0_1 = some r) :
 Calls Try.prog 21 #[.agg #[.slice A0_0 l0_0.length c0_0, .slice A0_1 l0_1.length c0_1]] w fun e w' => e = .returned (.bool r) ∧ Below w.heap.size w w' := by
 have hu26 := Try.underlying26
 have HR0_0 := Aside0.mk hr0_0
 have HC0_0 := Aside0.mk hc0_0
 clear hr0_0 hc0_0
 have HR0_1 := Aside0.mk hr0_1
 have HC0_1 := Aside0.mk hc0_1
 clear hr0_1 hc0_1
 have HB := Aside0.mk (Below.refl w.heap.size w)
 unfold impl_BookOk.f at h; have H := h; clear h
 replace H := Option.bind_eq_some_iff.mp H
 obtain ⟨t134, A20, H⟩ := H; try dsimp only at H
 have A2 := Aside0.mk A20
 clear A20
 replace H := iub_ H; rcases H with ⟨rfl, H⟩ | ⟨rfl, H⟩
 · obtain rfl := Option.some.inj H
   go_enter Try.func21, Try.ntmps21
   go_wp2_with (first | ((with_reducible refine gate_dst (N := 1) rfl ?_); refine be_ 1 26 #[.slice A0_0 l0_0.length c0_0, .slice A0_1 l0_1.length c0_1] ?_; intro gb133 hg w10 hbox hb; have BK133 := Aside0.mk (hbox); have GW133 := Aside0.mk ((gs_ hg : w.heap.size ≤ gb133)); have GE133 := Aside0.mk ((gs_ hg : w.heap.size ≤ gb133)); replace HB := Aside0.mk (below_step (bl_) hb); clear hb hbox hg; have hcz11_0 := bc0_ BK133; have hcz11_1 := bc1_ BK133; have hfz11_0 := blk_frozen BK133.out 0; have hfz11_1 := blk_frozen BK133.out 1) | ((with_reducible refine gate_callee (f := 43) rfl ?_); refine gl_ 5 Try.func43 #[.slice A0_0 l0_0.length c0_0] ?_; (with_reducible refine (impl_affixesOk.calls k _ _ l0_0 false _ ?side1 ?side2 A2.out).mono ?_); (case side1 => exact cb_ HR0_0); (case side2 => exact HC0_0.out); rintro e w12 ⟨rfl, hb⟩; refine ⟨_, rfl, ?_⟩; replace BK133 := Aside0.mk (blk_below (bk_ BK133) hb); replace HB := Aside0.mk (below_step (bl_) hb); (try clear hb); (try clear hb2); (try clear hk); (try clear hi)))
   go_ret
   exact ⟨rfe_, bl_⟩
 replace H := Option.bind_eq_some_iff.mp H
 obtain ⟨t135, A40, H⟩ := H; try dsimp only at H
 have A4 := Aside0.mk A40
 clear A40
 obtain rfl := Option.some.inj H
 go_enter Try.func21, Try.ntmps21
 go_wp2_with (first | ((with_reducible refine gate_dst (N := 1) rfl ?_); refine be_ 1 26 #[.slice A0_0 l0_0.length c0_0, .slice A0_1 l0_1.length c0_1] ?_; intro gb133 hg w5 hbox hb; have BK133 := Aside0.mk (hbox); have GW133 := Aside0.mk ((gs_ hg : w.heap.size ≤ gb133)); have GE133 := Aside0.mk ((gs_ hg : w.heap.size ≤ gb133)); replace HB := Aside0.mk (below_step (bl_) hb); clear hb hbox hg; have hcz6_0 := bc0_ BK133; have hcz6_1 := bc1_ BK133; have hfz6_0 := blk_frozen BK133.out 0; have hfz6_1 := blk_frozen BK133.out 1) | ((with_reducible refine gate_callee (f := 43) rfl ?_); refine gl_ 5 Try.func43 #[.slice A0_0 l0_0.length c0_0] ?_; (with_reducible refine (impl_affixesOk.calls k _ _ l0_0 true _ ?side1 ?side2 A2.out).mono ?_); (case side1 => exact cb_ HR0_0); (case side2 => exact HC0_0.out); rintro e w7 ⟨rfl, hb⟩; refine ⟨_, rfl, ?_⟩; replace BK133 := Aside0.mk (blk_below (bk_ BK133) hb); replace HB := Aside0.mk (below_step (bl_) hb); (try clear hb); (try clear hb2); (try clear hk); (try clear hi); have hcz8_0 := bc0_ BK133; have hcz8_1 := bc1_ BK133; have hfz8_0 := blk_frozen BK133.out 0; have hfz8_1 := blk_frozen BK133.out 1) | (go_at_call 44; (with_reducible refine (impl_entriesOk.calls k _ _ l0_1 t135 _ ?side1 ?side2 A4.out).mono ?_); (case side1 => exact cb_ HR0_1); (case side2 => exact HC0_1.out); rintro e w9 ⟨rfl, hb⟩; replace BK133 := Aside0.mk (blk_below (bk_ BK133) hb); replace HB := Aside0.mk (below_step (bl_) hb); (try clear hb); (try clear hb2); (try clear hk); (try clear hi)))
 go_ret
 exact ⟨rfe_, bl_⟩

end Go.Proofs.Ytbopiacjioedeaa.P
