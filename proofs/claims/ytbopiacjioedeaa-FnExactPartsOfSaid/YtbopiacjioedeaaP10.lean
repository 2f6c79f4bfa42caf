-- Written by a program of this session (wip/gen/gen.py) out of Lean's print of the loaded program; Lean checks it.
import Derived.Test.YtbopiacjioedeaaP0
import Derived.Test.YtbopiacjioedeaaSq2
import Derived.Test.YtbopiacjioedeaaP8
import Derived.Test.YtbopiacjioedeaaP9
namespace Go.Proofs.Ytbopiacjioedeaa.P
open Go.RowKit Go.Proofs.YtbopiacjioedeaaW.PrintWords Go.Proofs.YtbopiacjioedeaaW.PrintLast Go.Proofs.YtbopiacjioedeaaW.PrintMore
attribute [local go_sem] max2_int min2_int max_two min_two max_three min_three max_four min_four IntKind.wrap_u8 IntKind.wrap_u32 w64_256 w64_u32
set_option maxHeartbeats 8000000
set_option maxRecDepth 100000
set_option linter.unusedVariables false
set_option linter.unusedSimpArgs false

/-! ### spec_BookOk: function 25 -/
def spec_BookOk.l0 : Nat → Int → List (S68) → List (S73) → Option (Bool)
 | 0, _, _, _ => none
 | k + 1, x3, x253000, x253001 => if x3 < (x253001.length : Int) then (if 0 ≤ x3 then ((spec_l2Entry.f k ((rd_T73 x253001 x3).f0) ((rd_T73 x253001 x3).f1)).bind fun t254 => (if t254 = true then (if x3 > 0 then (if 0 ≤ (wrap64 (x3 - 1)) then (if (wrap64 (x3 - 1)) < (x253001.length : Int) then (if ((Op.bytesLess (((rd_T73 x253001 (wrap64 (x3 - 1))).f0).toList) (((rd_T73 x253001 x3).f0).toList)) = true) then (spec_BookOk.l0 k (wrap64 (x3 + 1)) x253000 x253001) else (some false)) else (none)) else (none)) else (spec_BookOk.l0 k (wrap64 (x3 + 1)) x253000 x253001)) else (some false))) else (none)) else ((spec_l2Affixes.f k x253000).bind fun t257 => (if t257 = true then (some (decide ((x253001.length : Int) ≤ 24))) else (some false)))
def spec_BookOk.f (k : Nat) (l0_0 : List (S68)) (l0_1 : List (S73)) : Option (Bool) := spec_BookOk.l0 k 0 l0_0 l0_1
theorem spec_BookOk.mono_l : ∀ k, (∀ y0 y1 y2, LeO (spec_BookOk.l0 k y0 y1 y2) (spec_BookOk.l0 (k + 1) y0 y1 y2))
 | 0 => fun _ _ _ r h => by simp [spec_BookOk.l0] at h
 | k + 1 => by
  have ih0 := spec_BookOk.mono_l k
  · intro y0 y1 y2
    unfold spec_BookOk.l0
    have m0 := @spec_l2Affixes.mono
    have m1 := @spec_l2Entry.mono
    exact mn_
theorem spec_BookOk.mono : ∀ a0 a1 k, LeO (spec_BookOk.f k a0 a1) (spec_BookOk.f (k + 1) a0 a1) := by
 intro a0 a1 k
 have ih0 := spec_BookOk.mono_l k
 unfold spec_BookOk.f
 have m0 := @spec_l2Affixes.mono
 have m1 := @spec_l2Entry.mono
 exact mn_
def spec_BookOk.T4 : Bool × List (List Nat × List Nat) := (true, [([], []), ([0], [0]), ([], []), ([1, 2], [1, 2]), ([3], [3]), ([4], [4]), ([5], [5]), ([6, 5], [6]), ([7], [7]), ([8, 7], [7, 8]), ([9, 7, 7], [7, 9]), ([10], [10]), ([11, 10], [10, 11]), ([10], [10]), ([13, 10], [10, 13]), ([12, 14, 10], [10, 12, 14]), ([15, 10], [10, 15]), ([16, 10], [10, 16]), ([10], [10]), ([18, 10], [10, 18]), ([10], [10]), ([19, 20, 10], [10, 19, 20]), ([21, 10], [10, 21]), ([22, 10], [10, 22]), ([17, 23, 10], [10, 17, 23]), ([10, 24, 7], [7, 10, 24]), ([7, 25], [7, 25])])
def spec_BookOk.B4 : List Nat := [0, 1, 0, 7, 15, 31, 63, 127, 255, 511, 1023, 2047, 4095, 2047, 10239, 32767, 65535, 131071, 2047, 264191, 2047, 1837055, 3934207, 8128511, 16777215, 33554431, 67108863]
theorem spec_BookOk.tab4 : rtab .any (opsOf Try.f25 4) = spec_BookOk.T4 := by kernel_rfl
theorem spec_BookOk.bits4 : waitsOk spec_BookOk.T4.2 spec_BookOk.B4 = true := by kernel_rfl
theorem spec_BookOk.calls (k : Nat) (A0_0 : Option Addr) (c0_0 : Nat) (l0_0 : List (S68)) (A0_1 : Option Addr) (c0_1 : Nat) (l0_1 : List (S73)) (r : Bool) (w : World) (hr0_0 : Kd.C k68 w A0_0 l0_0.length l0_0) (hc0_0 : l0_0.length ≤ c0_0) (hr0_1 : Kd.C k73 w A0_1 l0_1.length l0_1) (hc0_1 : l0_1.length ≤ c0_1) (h : spec_BookOk.f k l0_0 l0_1 = some r) :
 Calls Try.prog 25 #[.agg #[.slice A0_0 l0_0.length c0_0, .slice A0_1 l0_1.length c0_1]] w fun e w' => e = .returned (.bool r) ∧ Below w.heap.size w w' := by
 have hu26 := Try.underlying26
 have hu73 := Try.underlying73
 have HR0_0 := Aside0.mk hr0_0
 have HC0_0 := Aside0.mk hc0_0
 clear hr0_0 hc0_0
 have HR0_1 := Aside0.mk hr0_1
 have HC0_1 := Aside0.mk hc0_1
 clear hr0_1 hc0_1
 have HB := Aside0.mk (Below.refl w.heap.size w)
 unfold spec_BookOk.f at h; have H := h; clear h
 have H' := Aside0.mk H; clear H
 go_enter Try.func25, Try.ntmps25
 go_wp2_with (first | ((with_reducible refine gate_dst (N := 1) rfl ?_); (try (refine gate_guard (by rfl) ?_; dsimp only)); refine be_ 1 26 #[.slice A0_0 l0_0.length c0_0, .slice A0_1 l0_1.length c0_1] ?_; intro gb252 hg w2 hbox hb; have BK252 := Aside0.mk (hbox); have GW252 := Aside0.mk ((gs_ hg : w.heap.size ≤ gb252)); have GE252 := Aside0.mk ((gs_ hg : w.heap.size ≤ gb252)); replace HB := Aside0.mk (below_step (bl_) hb); clear hb hbox hg))
 go_loopg [3] k (fun kq v3 w' => ∃ (x3_1 : Int), v3 = .int .i64 x3_1 ∧ Aside0 (spec_BookOk.l0 kq x3_1 l0_0 l0_1 = some r) ∧ Aside0 (kq ≤ k) ∧ Aside0 (w'.heap[gb252]? = some (.cells #[(.slice A0_0 l0_0.length c0_0), (.slice A0_1 l0_1.length c0_1)] 26 (0, 0))) ∧ Aside0 (Below w.heap.size w w'))
 case atStart => exact ⟨(0), rf_, H', ⟨Nat.le_refl _⟩, ⟨by (with_reducible repeat (first | refine blk_drewN ?_ _ | refine blk_drew ?_ | refine blk_alloc ?_ _)); exact BK252.out⟩, ⟨bl_⟩⟩
 case round =>
  clear H'
  (try clear c2);(try clear p2)
  obtain ⟨x3_1, rfl, HA, HK1, BK252, HB⟩ := hrel
  cases gk with
  | zero => exact absurd HA.out (by simp [spec_BookOk.l0])
  | succ k1 =>
   have H := HA.out
   clear HA
   simp only [spec_BookOk.l0] at H
   replace H := iudd_ H; rcases H with ⟨c3b0, H⟩ | ⟨c3b0, H⟩
   · replace H := Option.bind_eq_some_iff.mp H
     obtain ⟨t257, A240, H⟩ := H; try dsimp only at H
     have A24 := Aside0.mk A240
     clear A240
     replace H := iub_ H; rcases H with ⟨rfl, H⟩ | ⟨rfl, H⟩
     · obtain rfl := Option.some.inj H
       have hcz29_0 := bc0_ BK252
       have hcz29_1 := bc1_ BK252
       have hfz29_0 := blk_frozen BK252.out 0
       have hfz29_1 := blk_frozen BK252.out 1
       go_wp2_with (first | ((with_reducible refine gate_callee (f := 50) rfl ?_); refine gl_ 40 Try.func50 #[.slice A0_0 l0_0.length c0_0] ?_; (with_reducible refine (spec_l2Affixes.calls k1 _ _ l0_0 false _ ?side1 ?side2 A24.out).mono ?_); (case side1 => exact cb_ HR0_0); (case side2 => exact HC0_0.out); rintro e w30 ⟨rfl, hb⟩; refine ⟨_, rfl, ?_⟩; replace BK252 := Aside0.mk (blk_below (bk_ BK252) hb); replace HB := Aside0.mk (below_step (bl_) hb); (try clear hb); (try clear hb2); (try clear hk); (try clear hi)))
       go_ret
       exact ⟨rfe_, bl_⟩
     obtain rfl := Option.some.inj H
     have hcz26_0 := bc0_ BK252
     have hcz26_1 := bc1_ BK252
     have hfz26_0 := blk_frozen BK252.out 0
     have hfz26_1 := blk_frozen BK252.out 1
     go_wp2_with (first | ((with_reducible refine gate_callee (f := 50) rfl ?_); refine gl_ 40 Try.func50 #[.slice A0_0 l0_0.length c0_0] ?_; (with_reducible refine (spec_l2Affixes.calls k1 _ _ l0_0 true _ ?side1 ?side2 A24.out).mono ?_); (case side1 => exact cb_ HR0_0); (case side2 => exact HC0_0.out); rintro e w27 ⟨rfl, hb⟩; refine ⟨_, rfl, ?_⟩; replace BK252 := Aside0.mk (blk_below (bk_ BK252) hb); replace HB := Aside0.mk (below_step (bl_) hb); (try clear hb); (try clear hb2); (try clear hk); (try clear hi); have hcz28_0 := bc0_ BK252; have hcz28_1 := bc1_ BK252; have hfz28_0 := blk_frozen BK252.out 0; have hfz28_1 := blk_frozen BK252.out 1))
     go_ret
     exact ⟨rfe_, bl_⟩
   replace H := ind_ H; obtain ⟨c4b0, H⟩ := H
   replace H := Option.bind_eq_some_iff.mp H
   obtain ⟨t254, A50, H⟩ := H; try dsimp only at H
   have A5 := Aside0.mk A50
   clear A50
   replace H := iub_ H; rcases H with ⟨rfl, H⟩ | ⟨rfl, H⟩
   · obtain rfl := Option.some.inj H
     have hcz21_0 := bc0_ BK252
     have hcz21_1 := bc1_ BK252
     have hfz21_0 := blk_frozen BK252.out 0
     have hfz21_1 := blk_frozen BK252.out 1
     try go_wp2
     replace BK252 := Aside0.mk (blk_drew BK252.out)
     replace HB := Aside0.mk (below_drew1 HB.out)
     have p253 : 0 ≤ (x3_1 : Int) := od_
     have q253 : x3_1 < (l0_1.length : Int) := od_
     obtain ⟨ad253, e253, hx253_0, hx253_1⟩ := at_T73 HR0_1.out x3_1 p253 q253
     have hw253_1 := hx253_1
     have hw253_0 := hx253_0
     cases e253
     replace hx253_0 := hc_ HB hx253_0
     replace hx253_1 := hc_ HB hx253_1
     replace p253 := eq_true p253; replace q253 := eq_true q253
     refine start_ (n := 27) (S := fun w' => w'.cell? ⟨gb252, 0, none⟩ = some (.slice A0_0 l0_0.length c0_0) ∧ w'.cell? ⟨gb252, 1, none⟩ = some (.slice (some ad253) l0_1.length c0_1) ∧ w'.cell? (ad253.add ((x3_1).toNat * 2)) = some (.string ((rd_T73 l0_1 x3_1).f0)) ∧ w'.cell? ⟨(ad253.add ((x3_1).toNat * 2)).block, (ad253.add ((x3_1).toNat * 2)).off + 1, none⟩ = some (.string ((rd_T73 l0_1 x3_1).f1))) (ds := []) (bm 27 0) (by kernel_rfl) rfl rfl ⟨(blk_cell BK252.out 0).trans rfl, (blk_cell BK252.out 1).trans rfl, ((HB.out.cell (World.block_lt_of_cell? w _ hw253_0)).trans hw253_0), ((HB.out.cell (World.block_lt_of_cell? w _ hw253_1)).trans hw253_1)⟩ (fun hHeld => ?_); refine with_tabW spec_BookOk.tab4 spec_BookOk.bits4 (fun HT_ HW_ => ?_)
     generalize wr.drew = w22 at BK252 HB hx253_0 hx253_1 hHeld ⊢
     refine sp_ 0 (some 11) (bm 27 1) HT_ (h := ?_)
     refine sp_ 2 (some 13) (bm 27 5) HT_ (h := ?_)
     refine sr_ 1 (some 12) (bm 27 7) HT_ HW_ hHeld (h := ?_)
     refine sp_ 3 (some 14) (bm 27 15) HT_ (h := ?_)
     refine sr_ 4 (some 15) (bm 27 31) HT_ HW_ hHeld (h := ?_)
     refine sn_ 5 (some 16) (bm 27 63) HT_ (fun K hK => ?_)
     refine goes_ Try.func49 (by kernel_rfl) rfl #[.agg #[.string ((rd_T73 l0_1 x3_1).f0), .string ((rd_T73 l0_1 x3_1).f1)]] (by rfl) rfl rfl (by (try simp only [List.map_toArray, List.map_cons, List.map_nil]); first | done | rfl | (simp only [List.length_drop, List.length_take]; rfl)) ?_
     with_reducible refine (spec_l2Entry.calls k1 ((rd_T73 l0_1 x3_1).f0) ((rd_T73 l0_1 x3_1).f1) false _ A5.out).mono ?_
     rintro e w23 ⟨rfl, hb⟩
     refine ⟨_, rfl, ?_⟩
     replace BK252 := Aside0.mk (blk_below (bk_ BK252) hb)
     replace HB := Aside0.mk (below_step (bl_) hb)
     (try clear hb)
     (try clear hb2)
     (try clear hk)
     (try clear hi)
     refine hK.out _ _ ⟨(blk_cell BK252.out 0).trans rfl, (blk_cell BK252.out 1).trans rfl, ((HB.out.cell (World.block_lt_of_cell? w _ hw253_0)).trans hw253_0), ((HB.out.cell (World.block_lt_of_cell? w _ hw253_1)).trans hw253_1)⟩ (fun hHeld => ?_)
     clear hK K
     refine nm_ ?_
     refine sp_ 6 (some 17) (bm 27 127) HT_ (h := ?_)
     refine sp_ 7 (some 18) (bm 27 255) HT_ (h := ?_)
     refine so_ 8 (some 19) (bm 27 511) HT_ (h := ?_)
     refine so_ 9 (some 20) (bm 27 1023) HT_ (h := ?_)
     refine so_ 10 (some 21) (bm 27 2047) HT_ (h := ?_)
     refine so_ 11 (some 22) (bm 27 4095) HT_ (h := ?_)
     refine so_ 12 (some 23) (bm 27 8191) HT_ (h := ?_)
     refine so_ 13 (some 24) (bm 27 16383) HT_ (h := ?_)
     refine so_ 14 (some 25) (bm 27 32767) HT_ (h := ?_)
     refine so_ 15 (some 26) (bm 27 65535) HT_ (h := ?_)
     refine so_ 16 (some 27) (bm 27 131071) HT_ (h := ?_)
     refine so_ 17 (some 28) (bm 27 262143) HT_ (h := ?_)
     refine so_ 18 (some 29) (bm 27 524287) HT_ (h := ?_)
     refine so_ 19 (some 30) (bm 27 1048575) HT_ (h := ?_)
     refine so_ 20 (some 31) (bm 27 2097151) HT_ (h := ?_)
     refine so_ 21 (some 32) (bm 27 4194303) HT_ (h := ?_)
     refine so_ 22 (some 33) (bm 27 8388607) HT_ (h := ?_)
     refine so_ 23 (some 34) (bm 27 16777215) HT_ (h := ?_)
     refine so_ 24 (some 35) (bm 27 33554431) HT_ (h := ?_)
     refine so_ 25 (some 36) (bm 27 67108863) HT_ (h := ?_)
     refine sp_ 26 (some 37) (bm 27 134217727) HT_ (h := ?_)
     refine done_ (done_of HT_.out (by kernel_rfl)) ?_
     try go_wp2
     go_ret
     exact ⟨rfe_, bl_⟩
   replace H := iucc_ H; rcases H with ⟨c7, H⟩ | ⟨c7, H⟩
   · have c7b0 : decide (0 < x3_1) = false := decide_eq_false c7
     clear c7
     have H' := Aside0.mk H; clear H
     have hcz18_0 := bc0_ BK252
     have hcz18_1 := bc1_ BK252
     have hfz18_0 := blk_frozen BK252.out 0
     have hfz18_1 := blk_frozen BK252.out 1
     try go_wp2
     replace BK252 := Aside0.mk (blk_drew BK252.out)
     replace HB := Aside0.mk (below_drew1 HB.out)
     have p253 : 0 ≤ (x3_1 : Int) := od_
     have q253 : x3_1 < (l0_1.length : Int) := od_
     obtain ⟨ad253, e253, hx253_0, hx253_1⟩ := at_T73 HR0_1.out x3_1 p253 q253
     have hw253_1 := hx253_1
     have hw253_0 := hx253_0
     cases e253
     replace hx253_0 := hc_ HB hx253_0
     replace hx253_1 := hc_ HB hx253_1
     replace p253 := eq_true p253; replace q253 := eq_true q253
     refine start_ (n := 27) (S := fun w' => w'.cell? ⟨gb252, 0, none⟩ = some (.slice A0_0 l0_0.length c0_0) ∧ w'.cell? ⟨gb252, 1, none⟩ = some (.slice (some ad253) l0_1.length c0_1) ∧ w'.cell? (ad253.add ((x3_1).toNat * 2)) = some (.string ((rd_T73 l0_1 x3_1).f0)) ∧ w'.cell? ⟨(ad253.add ((x3_1).toNat * 2)).block, (ad253.add ((x3_1).toNat * 2)).off + 1, none⟩ = some (.string ((rd_T73 l0_1 x3_1).f1))) (ds := []) (bm 27 0) (by kernel_rfl) rfl rfl ⟨(blk_cell BK252.out 0).trans rfl, (blk_cell BK252.out 1).trans rfl, ((HB.out.cell (World.block_lt_of_cell? w _ hw253_0)).trans hw253_0), ((HB.out.cell (World.block_lt_of_cell? w _ hw253_1)).trans hw253_1)⟩ (fun hHeld => ?_); refine with_tabW spec_BookOk.tab4 spec_BookOk.bits4 (fun HT_ HW_ => ?_)
     generalize wr.drew = w19 at BK252 HB hx253_0 hx253_1 hHeld ⊢
     refine sp_ 0 (some 11) (bm 27 1) HT_ (h := ?_)
     refine sp_ 2 (some 13) (bm 27 5) HT_ (h := ?_)
     refine sr_ 1 (some 12) (bm 27 7) HT_ HW_ hHeld (h := ?_)
     refine sp_ 3 (some 14) (bm 27 15) HT_ (h := ?_)
     refine sr_ 4 (some 15) (bm 27 31) HT_ HW_ hHeld (h := ?_)
     refine sn_ 5 (some 16) (bm 27 63) HT_ (fun K hK => ?_)
     refine goes_ Try.func49 (by kernel_rfl) rfl #[.agg #[.string ((rd_T73 l0_1 x3_1).f0), .string ((rd_T73 l0_1 x3_1).f1)]] (by rfl) rfl rfl (by (try simp only [List.map_toArray, List.map_cons, List.map_nil]); first | done | rfl | (simp only [List.length_drop, List.length_take]; rfl)) ?_
     with_reducible refine (spec_l2Entry.calls k1 ((rd_T73 l0_1 x3_1).f0) ((rd_T73 l0_1 x3_1).f1) true _ A5.out).mono ?_
     rintro e w20 ⟨rfl, hb⟩
     refine ⟨_, rfl, ?_⟩
     replace BK252 := Aside0.mk (blk_below (bk_ BK252) hb)
     replace HB := Aside0.mk (below_step (bl_) hb)
     (try clear hb)
     (try clear hb2)
     (try clear hk)
     (try clear hi)
     refine hK.out _ _ ⟨(blk_cell BK252.out 0).trans rfl, (blk_cell BK252.out 1).trans rfl, ((HB.out.cell (World.block_lt_of_cell? w _ hw253_0)).trans hw253_0), ((HB.out.cell (World.block_lt_of_cell? w _ hw253_1)).trans hw253_1)⟩ (fun hHeld => ?_)
     clear hK K
     refine nm_ ?_
     refine sp_ 6 (some 17) (bm 27 127) HT_ (h := ?_)
     refine sp_ 7 (some 18) (bm 27 255) HT_ (h := ?_)
     refine sp_ 8 (some 19) (bm 27 511) HT_ (h := ?_)
     refine sp_ 9 (some 20) (bm 27 1023) HT_ (h := ?_)
     refine sp_ 10 (some 21) (bm 27 2047) HT_ (h := ?_)
     refine so_ 11 (some 22) (bm 27 4095) HT_ (h := ?_)
     refine so_ 12 (some 23) (bm 27 8191) HT_ (h := ?_)
     refine so_ 13 (some 24) (bm 27 16383) HT_ (h := ?_)
     refine so_ 14 (some 25) (bm 27 32767) HT_ (h := ?_)
     refine so_ 15 (some 26) (bm 27 65535) HT_ (h := ?_)
     refine so_ 16 (some 27) (bm 27 131071) HT_ (h := ?_)
     refine so_ 17 (some 28) (bm 27 262143) HT_ (h := ?_)
     refine so_ 18 (some 29) (bm 27 524287) HT_ (h := ?_)
     refine so_ 19 (some 30) (bm 27 1048575) HT_ (h := ?_)
     refine so_ 20 (some 31) (bm 27 2097151) HT_ (h := ?_)
     refine so_ 21 (some 32) (bm 27 4194303) HT_ (h := ?_)
     refine so_ 22 (some 33) (bm 27 8388607) HT_ (h := ?_)
     refine so_ 23 (some 34) (bm 27 16777215) HT_ (h := ?_)
     refine so_ 24 (some 35) (bm 27 33554431) HT_ (h := ?_)
     refine sp_ 25 (some 36) (bm 27 67108863) HT_ (h := ?_)
     refine sp_ 26 (some 37) (bm 27 134217727) HT_ (h := ?_)
     refine done_ (done_of HT_.out (by kernel_rfl)) ?_
     try go_wp2
     go_roundg k1
     case measure => have := HK1.out; omega
     case rel => exact ⟨(wrap64 (x3_1 + 1)), rf_, H', ⟨by have := HK1.out; omega⟩, ⟨by (with_reducible repeat (first | refine blk_drewN ?_ _ | refine blk_drew ?_ | refine blk_alloc ?_ _)); exact BK252.out⟩, ⟨bl_⟩⟩
   have c7b0 : decide (0 < x3_1) = true := decide_eq_true c7
   clear c7
   obtain ⟨ji8, hji8⟩ : ∃ j_ : Int, (wrap64 (x3_1 - 1)) = j_ := ⟨_, rfl⟩
   replace H : (if 0 ≤ (ji8) then (if (ji8) < (l0_1.length : Int) then (if ((Op.bytesLess (((rd_T73 l0_1 (ji8)).f0).toList) (((rd_T73 l0_1 x3_1).f0).toList)) = true) then (spec_BookOk.l0 k1 (wrap64 (x3_1 + 1)) l0_0 l0_1) else (some false)) else (none)) else (none)) = some r := by first | (rw [hji8] at H; exact H) | (simp only [hji8] at H ⊢; exact H)
   (try rw [hji8] at A5)
   have hji8w : (IntKind.i64.wrap (x3_1 - 1)) = ji8 := (i64_w _).trans hji8
   replace H := ind_ H; obtain ⟨c9b0, H⟩ := H
   replace H := ind_ H; obtain ⟨c10b0, H⟩ := H
   replace H := iucc_ H; rcases H with ⟨c11, H⟩ | ⟨c11, H⟩
   · have c11b0 : (Op.bytesLess (((rd_T73 l0_1 (ji8)).f0).toList) (((rd_T73 l0_1 x3_1).f0).toList)) = false := by simpa using c11
     clear c11
     obtain rfl := Option.some.inj H
     have hcz15_0 := bc0_ BK252
     have hcz15_1 := bc1_ BK252
     have hfz15_0 := blk_frozen BK252.out 0
     have hfz15_1 := blk_frozen BK252.out 1
     try go_wp2
     replace BK252 := Aside0.mk (blk_drew BK252.out)
     replace HB := Aside0.mk (below_drew1 HB.out)
     have p253 : 0 ≤ (x3_1 : Int) := od_
     have q253 : x3_1 < (l0_1.length : Int) := od_
     obtain ⟨ad253, e253, hx253_0, hx253_1⟩ := at_T73 HR0_1.out x3_1 p253 q253
     have hw253_1 := hx253_1
     have hw253_0 := hx253_0
     cases e253
     replace hx253_0 := hc_ HB hx253_0
     replace hx253_1 := hc_ HB hx253_1
     replace p253 := eq_true p253; replace q253 := eq_true q253
     have p255 : 0 ≤ ((ji8) : Int) := od_
     have q255 : (ji8) < (l0_1.length : Int) := od_
     obtain ⟨ad255, e255, hx255_0, hx255_1⟩ := at_T73 HR0_1.out (ji8) p255 q255
     have hw255_1 := hx255_1
     have hw255_0 := hx255_0
     obtain rfl : ad253 = ad255 := (by injection e255)
     replace hx255_0 := hc_ HB hx255_0
     replace hx255_1 := hc_ HB hx255_1
     replace p255 := eq_true p255; replace q255 := eq_true q255
     have p256 : 0 ≤ (x3_1 : Int) := od_
     have q256 : x3_1 < (l0_1.length : Int) := od_
     obtain ⟨ad256, e256, hx256_0, hx256_1⟩ := at_T73 HR0_1.out x3_1 p256 q256
     have hw256_1 := hx256_1
     have hw256_0 := hx256_0
     obtain rfl : ad253 = ad256 := (by injection e256)
     replace hx256_0 := hc_ HB hx256_0
     replace hx256_1 := hc_ HB hx256_1
     replace p256 := eq_true p256; replace q256 := eq_true q256
     refine start_ (n := 27) (S := fun w' => w'.cell? ⟨gb252, 0, none⟩ = some (.slice A0_0 l0_0.length c0_0) ∧ w'.cell? ⟨gb252, 1, none⟩ = some (.slice (some ad253) l0_1.length c0_1) ∧ w'.cell? (ad253.add ((x3_1).toNat * 2)) = some (.string ((rd_T73 l0_1 x3_1).f0)) ∧ w'.cell? ⟨(ad253.add ((x3_1).toNat * 2)).block, (ad253.add ((x3_1).toNat * 2)).off + 1, none⟩ = some (.string ((rd_T73 l0_1 x3_1).f1)) ∧ w'.cell? (ad253.add (((ji8)).toNat * 2)) = some (.string ((rd_T73 l0_1 (ji8)).f0)) ∧ w'.cell? ⟨(ad253.add (((ji8)).toNat * 2)).block, (ad253.add (((ji8)).toNat * 2)).off + 1, none⟩ = some (.string ((rd_T73 l0_1 (ji8)).f1)) ∧ w'.cell? (ad253.add ((x3_1).toNat * 2)) = some (.string ((rd_T73 l0_1 x3_1).f0)) ∧ w'.cell? ⟨(ad253.add ((x3_1).toNat * 2)).block, (ad253.add ((x3_1).toNat * 2)).off + 1, none⟩ = some (.string ((rd_T73 l0_1 x3_1).f1))) (ds := []) (bm 27 0) (by kernel_rfl) rfl rfl ⟨(blk_cell BK252.out 0).trans rfl, (blk_cell BK252.out 1).trans rfl, ((HB.out.cell (World.block_lt_of_cell? w _ hw253_0)).trans hw253_0), ((HB.out.cell (World.block_lt_of_cell? w _ hw253_1)).trans hw253_1), ((HB.out.cell (World.block_lt_of_cell? w _ hw255_0)).trans hw255_0), ((HB.out.cell (World.block_lt_of_cell? w _ hw255_1)).trans hw255_1), ((HB.out.cell (World.block_lt_of_cell? w _ hw256_0)).trans hw256_0), ((HB.out.cell (World.block_lt_of_cell? w _ hw256_1)).trans hw256_1)⟩ (fun hHeld => ?_); refine with_tabW spec_BookOk.tab4 spec_BookOk.bits4 (fun HT_ HW_ => ?_)
     generalize wr.drew = w16 at BK252 HB hx253_0 hx253_1 hx255_0 hx255_1 hx256_0 hx256_1 hHeld ⊢
     refine sp_ 0 (some 11) (bm 27 1) HT_ (h := ?_)
     refine sp_ 2 (some 13) (bm 27 5) HT_ (h := ?_)
     refine sr_ 1 (some 12) (bm 27 7) HT_ HW_ hHeld (h := ?_)
     refine sp_ 3 (some 14) (bm 27 15) HT_ (h := ?_)
     refine sr_ 4 (some 15) (bm 27 31) HT_ HW_ hHeld (h := ?_)
     refine sn_ 5 (some 16) (bm 27 63) HT_ (fun K hK => ?_)
     refine goes_ Try.func49 (by kernel_rfl) rfl #[.agg #[.string ((rd_T73 l0_1 x3_1).f0), .string ((rd_T73 l0_1 x3_1).f1)]] (by rfl) rfl rfl (by (try simp only [List.map_toArray, List.map_cons, List.map_nil]); first | done | rfl | (simp only [List.length_drop, List.length_take]; rfl)) ?_
     with_reducible refine (spec_l2Entry.calls k1 ((rd_T73 l0_1 x3_1).f0) ((rd_T73 l0_1 x3_1).f1) true _ A5.out).mono ?_
     rintro e w17 ⟨rfl, hb⟩
     refine ⟨_, rfl, ?_⟩
     replace BK252 := Aside0.mk (blk_below (bk_ BK252) hb)
     replace HB := Aside0.mk (below_step (bl_) hb)
     (try clear hb)
     (try clear hb2)
     (try clear hk)
     (try clear hi)
     refine hK.out _ _ ⟨(blk_cell BK252.out 0).trans rfl, (blk_cell BK252.out 1).trans rfl, ((HB.out.cell (World.block_lt_of_cell? w _ hw253_0)).trans hw253_0), ((HB.out.cell (World.block_lt_of_cell? w _ hw253_1)).trans hw253_1), ((HB.out.cell (World.block_lt_of_cell? w _ hw255_0)).trans hw255_0), ((HB.out.cell (World.block_lt_of_cell? w _ hw255_1)).trans hw255_1), ((HB.out.cell (World.block_lt_of_cell? w _ hw256_0)).trans hw256_0), ((HB.out.cell (World.block_lt_of_cell? w _ hw256_1)).trans hw256_1)⟩ (fun hHeld => ?_)
     clear hK K
     refine nm_ ?_
     refine sp_ 6 (some 17) (bm 27 127) HT_ (h := ?_)
     refine sp_ 7 (some 18) (bm 27 255) HT_ (h := ?_)
     refine sp_ 8 (some 19) (bm 27 511) HT_ (h := ?_)
     refine sp_ 9 (some 20) (bm 27 1023) HT_ (h := ?_)
     refine sp_ 10 (some 21) (bm 27 2047) HT_ (h := ?_)
     refine sp_ 11 (some 22) (bm 27 4095) HT_ (h := ?_)
     refine sp_ 13 (some 24) (bm 27 12287) HT_ (h := ?_)
     refine sp_ 14 (some 25) (bm 27 28671) HT_ (h := ?_)
     refine sp_ 18 (some 29) (bm 27 290815) HT_ (h := ?_)
     refine sp_ 20 (some 31) (bm 27 1339391) HT_ (h := ?_)
     refine sr_ 12 (some 23) (bm 27 1343487) HT_ HW_ hHeld (h := ?_)
     refine sp_ 15 (some 26) (bm 27 1376255) HT_ (h := ?_)
     refine sp_ 16 (some 27) (bm 27 1441791) HT_ (h := ?_)
     refine sr_ 17 (some 28) (bm 27 1572863) HT_ HW_ hHeld (h := ?_)
     refine sr_ 19 (some 30) (bm 27 2097151) HT_ HW_ hHeld (h := ?_)
     refine sp_ 21 (some 32) (bm 27 4194303) HT_ (h := ?_)
     refine sp_ 22 (some 33) (bm 27 8388607) HT_ (h := ?_)
     refine sr_ 23 (some 34) (bm 27 16777215) HT_ HW_ hHeld (h := ?_)
     refine sp_ 24 (some 35) (bm 27 33554431) HT_ (h := ?_)
     refine sp_ 25 (some 36) (bm 27 67108863) HT_ (h := ?_)
     refine sp_ 26 (some 37) (bm 27 134217727) HT_ (h := ?_)
     refine done_ (done_of HT_.out (by kernel_rfl)) ?_
     try go_wp2
     go_ret
     exact ⟨by first | rfl | (simp [errW_none, errW_some] <;> rfl) | (simp only [← hji8]; first | rfl | (simp [errW_none, errW_some] <;> rfl)) | (simp [*, errW_none, errW_some] <;> rfl), bl_⟩
   have c11b0 : (Op.bytesLess (((rd_T73 l0_1 (ji8)).f0).toList) (((rd_T73 l0_1 x3_1).f0).toList)) = true := c11
   clear c11
   have H' := Aside0.mk H; clear H
   have hcz12_0 := bc0_ BK252
   have hcz12_1 := bc1_ BK252
   have hfz12_0 := blk_frozen BK252.out 0
   have hfz12_1 := blk_frozen BK252.out 1
   try go_wp2
   replace BK252 := Aside0.mk (blk_drew BK252.out)
   replace HB := Aside0.mk (below_drew1 HB.out)
   have p253 : 0 ≤ (x3_1 : Int) := od_
   have q253 : x3_1 < (l0_1.length : Int) := od_
   obtain ⟨ad253, e253, hx253_0, hx253_1⟩ := at_T73 HR0_1.out x3_1 p253 q253
   have hw253_1 := hx253_1
   have hw253_0 := hx253_0
   cases e253
   replace hx253_0 := hc_ HB hx253_0
   replace hx253_1 := hc_ HB hx253_1
   replace p253 := eq_true p253; replace q253 := eq_true q253
   have p255 : 0 ≤ ((ji8) : Int) := od_
   have q255 : (ji8) < (l0_1.length : Int) := od_
   obtain ⟨ad255, e255, hx255_0, hx255_1⟩ := at_T73 HR0_1.out (ji8) p255 q255
   have hw255_1 := hx255_1
   have hw255_0 := hx255_0
   obtain rfl : ad253 = ad255 := (by injection e255)
   replace hx255_0 := hc_ HB hx255_0
   replace hx255_1 := hc_ HB hx255_1
   replace p255 := eq_true p255; replace q255 := eq_true q255
   have p256 : 0 ≤ (x3_1 : Int) := od_
   have q256 : x3_1 < (l0_1.length : Int) := od_
   obtain ⟨ad256, e256, hx256_0, hx256_1⟩ := at_T73 HR0_1.out x3_1 p256 q256
   have hw256_1 := hx256_1
   have hw256_0 := hx256_0
   obtain rfl : ad253 = ad256 := (by injection e256)
   replace hx256_0 := hc_ HB hx256_0
   replace hx256_1 := hc_ HB hx256_1
   replace p256 := eq_true p256; replace q256 := eq_true q256
   refine start_ (n := 27) (S := fun w' => w'.cell? ⟨gb252, 0, none⟩ = some (.slice A0_0 l0_0.length c0_0) ∧ w'.cell? ⟨gb252, 1, none⟩ = some (.slice (some ad253) l0_1.length c0_1) ∧ w'.cell? (ad253.add ((x3_1).toNat * 2)) = some (.string ((rd_T73 l0_1 x3_1).f0)) ∧ w'.cell? ⟨(ad253.add ((x3_1).toNat * 2)).block, (ad253.add ((x3_1).toNat * 2)).off + 1, none⟩ = some (.string ((rd_T73 l0_1 x3_1).f1)) ∧ w'.cell? (ad253.add (((ji8)).toNat * 2)) = some (.string ((rd_T73 l0_1 (ji8)).f0)) ∧ w'.cell? ⟨(ad253.add (((ji8)).toNat * 2)).block, (ad253.add (((ji8)).toNat * 2)).off + 1, none⟩ = some (.string ((rd_T73 l0_1 (ji8)).f1)) ∧ w'.cell? (ad253.add ((x3_1).toNat * 2)) = some (.string ((rd_T73 l0_1 x3_1).f0)) ∧ w'.cell? ⟨(ad253.add ((x3_1).toNat * 2)).block, (ad253.add ((x3_1).toNat * 2)).off + 1, none⟩ = some (.string ((rd_T73 l0_1 x3_1).f1))) (ds := []) (bm 27 0) (by kernel_rfl) rfl rfl ⟨(blk_cell BK252.out 0).trans rfl, (blk_cell BK252.out 1).trans rfl, ((HB.out.cell (World.block_lt_of_cell? w _ hw253_0)).trans hw253_0), ((HB.out.cell (World.block_lt_of_cell? w _ hw253_1)).trans hw253_1), ((HB.out.cell (World.block_lt_of_cell? w _ hw255_0)).trans hw255_0), ((HB.out.cell (World.block_lt_of_cell? w _ hw255_1)).trans hw255_1), ((HB.out.cell (World.block_lt_of_cell? w _ hw256_0)).trans hw256_0), ((HB.out.cell (World.block_lt_of_cell? w _ hw256_1)).trans hw256_1)⟩ (fun hHeld => ?_); refine with_tabW spec_BookOk.tab4 spec_BookOk.bits4 (fun HT_ HW_ => ?_)
   generalize wr.drew = w13 at BK252 HB hx253_0 hx253_1 hx255_0 hx255_1 hx256_0 hx256_1 hHeld ⊢
   refine sp_ 0 (some 11) (bm 27 1) HT_ (h := ?_)
   refine sp_ 2 (some 13) (bm 27 5) HT_ (h := ?_)
   refine sr_ 1 (some 12) (bm 27 7) HT_ HW_ hHeld (h := ?_)
   refine sp_ 3 (some 14) (bm 27 15) HT_ (h := ?_)
   refine sr_ 4 (some 15) (bm 27 31) HT_ HW_ hHeld (h := ?_)
   refine sn_ 5 (some 16) (bm 27 63) HT_ (fun K hK => ?_)
   refine goes_ Try.func49 (by kernel_rfl) rfl #[.agg #[.string ((rd_T73 l0_1 x3_1).f0), .string ((rd_T73 l0_1 x3_1).f1)]] (by rfl) rfl rfl (by (try simp only [List.map_toArray, List.map_cons, List.map_nil]); first | done | rfl | (simp only [List.length_drop, List.length_take]; rfl)) ?_
   with_reducible refine (spec_l2Entry.calls k1 ((rd_T73 l0_1 x3_1).f0) ((rd_T73 l0_1 x3_1).f1) true _ A5.out).mono ?_
   rintro e w14 ⟨rfl, hb⟩
   refine ⟨_, rfl, ?_⟩
   replace BK252 := Aside0.mk (blk_below (bk_ BK252) hb)
   replace HB := Aside0.mk (below_step (bl_) hb)
   (try clear hb)
   (try clear hb2)
   (try clear hk)
   (try clear hi)
   refine hK.out _ _ ⟨(blk_cell BK252.out 0).trans rfl, (blk_cell BK252.out 1).trans rfl, ((HB.out.cell (World.block_lt_of_cell? w _ hw253_0)).trans hw253_0), ((HB.out.cell (World.block_lt_of_cell? w _ hw253_1)).trans hw253_1), ((HB.out.cell (World.block_lt_of_cell? w _ hw255_0)).trans hw255_0), ((HB.out.cell (World.block_lt_of_cell? w _ hw255_1)).trans hw255_1), ((HB.out.cell (World.block_lt_of_cell? w _ hw256_0)).trans hw256_0), ((HB.out.cell (World.block_lt_of_cell? w _ hw256_1)).trans hw256_1)⟩ (fun hHeld => ?_)
   clear hK K
   refine nm_ ?_
   refine sp_ 6 (some 17) (bm 27 127) HT_ (h := ?_)
   refine sp_ 7 (some 18) (bm 27 255) HT_ (h := ?_)
   refine sp_ 8 (some 19) (bm 27 511) HT_ (h := ?_)
   refine sp_ 9 (some 20) (bm 27 1023) HT_ (h := ?_)
   refine sp_ 10 (some 21) (bm 27 2047) HT_ (h := ?_)
   refine sp_ 11 (some 22) (bm 27 4095) HT_ (h := ?_)
   refine sp_ 13 (some 24) (bm 27 12287) HT_ (h := ?_)
   refine sp_ 14 (some 25) (bm 27 28671) HT_ (h := ?_)
   refine sp_ 18 (some 29) (bm 27 290815) HT_ (h := ?_)
   refine sp_ 20 (some 31) (bm 27 1339391) HT_ (h := ?_)
   refine sr_ 12 (some 23) (bm 27 1343487) HT_ HW_ hHeld (h := ?_)
   refine sp_ 15 (some 26) (bm 27 1376255) HT_ (h := ?_)
   refine sp_ 16 (some 27) (bm 27 1441791) HT_ (h := ?_)
   refine sr_ 17 (some 28) (bm 27 1572863) HT_ HW_ hHeld (h := ?_)
   refine sr_ 19 (some 30) (bm 27 2097151) HT_ HW_ hHeld (h := ?_)
   refine sp_ 21 (some 32) (bm 27 4194303) HT_ (h := ?_)
   refine sp_ 22 (some 33) (bm 27 8388607) HT_ (h := ?_)
   refine sr_ 23 (some 34) (bm 27 16777215) HT_ HW_ hHeld (h := ?_)
   refine sp_ 24 (some 35) (bm 27 33554431) HT_ (h := ?_)
   refine sp_ 25 (some 36) (bm 27 67108863) HT_ (h := ?_)
   refine sp_ 26 (some 37) (bm 27 134217727) HT_ (h := ?_)
   refine done_ (done_of HT_.out (by kernel_rfl)) ?_
   try go_wp2
   go_roundg k1
   case measure => have := HK1.out; omega
   case rel => exact ⟨(wrap64 (x3_1 + 1)), rf_, H', ⟨by have := HK1.out; omega⟩, ⟨by (with_reducible repeat (first | refine blk_drewN ?_ _ | refine blk_drew ?_ | refine blk_alloc ?_ _)); exact BK252.out⟩, ⟨bl_⟩⟩

end Go.Proofs.Ytbopiacjioedeaa.P
