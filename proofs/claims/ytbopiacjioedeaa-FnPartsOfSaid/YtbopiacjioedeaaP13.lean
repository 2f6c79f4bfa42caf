-- Written by a program of this session (wip/gen/gen.py) out of Lean's print of the loaded program; Lean checks it.
import Derived.Test.YtbopiacjioedeaaP0
import Derived.Test.YtbopiacjioedeaaSq2
import Derived.Test.YtbopiacjioedeaaP2
import Derived.Test.YtbopiacjioedeaaP6
import Derived.Test.YtbopiacjioedeaaP12
namespace Go.Proofs.Ytbopiacjioedeaa.P
open Go.RowKit Go.Proofs.YtbopiacjioedeaaW.PrintWords Go.Proofs.YtbopiacjioedeaaW.PrintLast Go.Proofs.YtbopiacjioedeaaW.PrintMore
attribute [local go_sem] max2_int min2_int max_two min_two max_three min_three max_four min_four IntKind.wrap_u8 IntKind.wrap_u32 w64_256 w64_u32
set_option maxHeartbeats 8000000
set_option maxRecDepth 100000
set_option linter.unusedVariables false
set_option linter.unusedSimpArgs false

/-! ### spec_DrawPartsOf: function 5 -/
def spec_DrawPartsOf.f (k : Nat) (l0 : List Int) : Option ((List (S68)) × (List (S73)) × ByteArray) := (spec_l1Open.f l0).bind fun bt348 => ((spec_l13AnyBook.f k bt348.1 bt348.2).bind fun bt351 => ((spec_l13Of.f k bt348.1 bt351.2.2 bt351.1 bt351.2.1).bind fun bt359 => ((spec_l13Of.f k bt348.1 bt359.2 bt351.1 bt351.2.1).bind fun bt361 => (if bt359.1.size + bt361.1.size ≤ 9223372036854775807 then ((spec_l1Rd_pick.f k bt348.1 bt361.2 3).bind fun bt363 => (if bt363.1 = 0 then ((spec_l13Of.f k bt348.1 bt363.2 bt351.1 bt351.2.1).bind fun bt365 => (if bt359.1.size + bt361.1.size + bt365.1.size ≤ 9223372036854775807 then (if (((bt359.1 ++ bt361.1) ++ bt365.1).size : Int) > 12 then ((spec_l1Rd_pick.f k bt348.1 bt365.2 4).bind fun bt367 => (if bt367.1 > 0 then (if 0 ≤ 12 then (if 12 ≤ (((bt359.1 ++ bt361.1) ++ bt365.1).size : Int) then (some (bt351.1, bt351.2.1, ((bt359.1 ++ bt361.1) ++ bt365.1).extract 0 12)) else (none)) else (none)) else (some (bt351.1, bt351.2.1, (bt359.1 ++ bt361.1) ++ bt365.1)))) else (some (bt351.1, bt351.2.1, (bt359.1 ++ bt361.1) ++ bt365.1))) else (none))) else (if ((bt359.1 ++ bt361.1).size : Int) > 12 then ((spec_l1Rd_pick.f k bt348.1 bt363.2 4).bind fun bt369 => (if bt369.1 > 0 then (if 0 ≤ 12 then (if 12 ≤ ((bt359.1 ++ bt361.1).size : Int) then (some (bt351.1, bt351.2.1, (bt359.1 ++ bt361.1).extract 0 12)) else (none)) else (none)) else (some (bt351.1, bt351.2.1, bt359.1 ++ bt361.1)))) else (some (bt351.1, bt351.2.1, bt359.1 ++ bt361.1))))) else (none)))))
theorem spec_DrawPartsOf.mono : ∀ a0 k, LeO (spec_DrawPartsOf.f k a0) (spec_DrawPartsOf.f (k + 1) a0) := by
 intro a0 k
 unfold spec_DrawPartsOf.f
 have m0 := @spec_l13AnyBook.mono
 have m1 := @spec_l13Of.mono
 have m2 := @spec_l1Rd_pick.mono
 exact mn_
def spec_DrawPartsOf.T3 : Bool × List (List Nat × List Nat) := (true, [([], []), ([], []), ([0, 1], [0, 1]), ([], []), ([], []), ([3, 4, 2], [3, 4]), ([2, 5], [2, 5]), ([6, 5, 0, 1, 2, 3, 4, 5, 6], [6])])
def spec_DrawPartsOf.B3 : List Nat := [0, 0, 3, 0, 0, 31, 63, 127]
theorem spec_DrawPartsOf.tab3 : rtab .any (opsOf Try.f5 3) = spec_DrawPartsOf.T3 := by kernel_rfl
theorem spec_DrawPartsOf.bits3 : waitsOk spec_DrawPartsOf.T3.2 spec_DrawPartsOf.B3 = true := by kernel_rfl
theorem spec_DrawPartsOf.calls (k : Nat) (A0 : Option Addr) (c0 : Nat) (l0 : List Int) (r1 : List (S68)) (r2 : List (S73)) (r3 : ByteArray) (w : World) (hr0 : Kd.C (Kd.int .u8) w A0 l0.length l0) (hc0 : l0.length ≤ c0) (h : spec_DrawPartsOf.f k l0 = some (r1, r2, r3)) :
 Calls Try.prog 5 #[.slice A0 l0.length c0] w fun e w' => ∃ v0_ v1_ : Value, e = .returned (.tuple #[.agg #[v0_, v1_], .string r3]) ∧ Kd.R k68 68 w' w.heap.size (fun _ => True) v0_ r1 ∧ Kd.R k73 73 w' w.heap.size (fun _ => True) v1_ r2 ∧ Below w.heap.size w w' := by
 have hu26 := Try.underlying26
 have HR0 := Aside0.mk hr0
 have HC0 := Aside0.mk hc0
 clear hr0 hc0
 have HB := Aside0.mk (Below.refl w.heap.size w)
 unfold spec_DrawPartsOf.f at h; have H := h; clear h
 replace H := Option.bind_eq_some_iff.mp H
 obtain ⟨⟨t348, t349⟩, A20, H⟩ := H; try dsimp only at H
 have A2 := Aside0.mk A20
 clear A20
 replace H := Option.bind_eq_some_iff.mp H
 obtain ⟨⟨t351, t354, t357⟩, A30, H⟩ := H; try dsimp only at H
 have A3 := Aside0.mk A30
 clear A30
 replace H := Option.bind_eq_some_iff.mp H
 obtain ⟨⟨t359, t360⟩, A40, H⟩ := H; try dsimp only at H
 have A4 := Aside0.mk A40
 clear A40
 replace H := Option.bind_eq_some_iff.mp H
 obtain ⟨⟨t361, t362⟩, A50, H⟩ := H; try dsimp only at H
 have A5 := Aside0.mk A50
 clear A50
 replace H := inc_ H; obtain ⟨c6, H⟩ := H
 have c6b0 := eq_true c6
 have c6b1 : decide (t359.size + t361.size ≤ 9223372036854775807) = true := decide_eq_true c6
 try have c6b2 : (9223372036854775807 < t359.size + t361.size) = False := eq_false (Nat.not_lt.2 c6)
 replace H := Option.bind_eq_some_iff.mp H
 obtain ⟨⟨t363, t364⟩, A70, H⟩ := H; try dsimp only at H
 have A7 := Aside0.mk A70
 clear A70
 replace H := iucc_ H; rcases H with ⟨c8, H⟩ | ⟨c8, H⟩
 · have c8b0 : (t363 == 0) = false := beq_eq_false_iff_ne.mpr c8
   have c8b1 : (t363 != 0) = true := bne_iff_ne.mpr c8
   replace H := iucc_ H; rcases H with ⟨c75, H⟩ | ⟨c75, H⟩
   · have c75b0 : decide (12 < ((t359 ++ t361).size : Int)) = false := decide_eq_false c75
     try (have c75b0s := c75b0; simp only [ByteArray.size_append, Int.natCast_add] at c75b0s)
     have c75b1 : decide (12 < (t359 ++ t361).size) = false := decide_eq_false (by omega)
     try (have c75b1s := c75b1; simp only [ByteArray.size_append, Int.natCast_add] at c75b1s)
     clear c75
     simp only [Option.some.injEq, Prod.mk.injEq] at H
     obtain ⟨rfl, rfl, rfl⟩ := H
     go_enter Try.func5, Try.ntmps5
     try go_wp2_with (first | ((with_reducible refine gate_dst (N := 2) rfl ?_); refine be_ 2 26 #[.slice none 0 0, .slice none 0 0] ?_; intro gb347 hg w116 hbox hb; have BK347 := Aside0.mk (hbox); have GW347 := Aside0.mk ((gs_ hg : w.heap.size ≤ gb347)); have GE347 := Aside0.mk ((gs_ hg : w.heap.size ≤ gb347)); replace HB := Aside0.mk (below_step (bl_) hb); clear hb hbox hg) | ((with_reducible refine gate_callee (f := 17) rfl ?_); refine gl_ 8 Try.func17 #[.slice A0 l0.length c0] ?_; (with_reducible refine (spec_l1Open.calls _ _ l0 t348 t349 w _ ?side1 ?side2 ?side3 A2.out).mono ?_); (case side1 => exact bs_); (case side2 => exact HR0.out); (case side3 => exact HC0.out); rintro e w117 ⟨g350, rfl, hi, hb, hb2⟩; refine ⟨_, rfl, ?_⟩; replace HB := Aside0.mk (hb); have HI350 := Aside0.mk (hi); have NB350_347 := Aside0.mk (IsS66.ne_blk hi (blk_below (bk_ BK347) hb2) (by decide)); have NB347_350 := Aside0.mk (Ne.symm (IsS66.ne_blk hi (blk_below (bk_ BK347) hb2) (by decide))); replace BK347 := Aside0.mk (blk_below (bk_ BK347) hb2); (try clear hb); (try clear hb2); (try clear hk); (try clear hi)) | ((with_reducible refine gate_callee (f := 18) rfl ?_); refine gl_ 10 Try.func18 #[.pointer (some ⟨g350, 0, none⟩)] ?_; (with_reducible refine (spec_l13AnyBook.calls k g350 t348 t349 t351 t354 t357 w _ ?side1 ?side2 A3.out).mono ?_); (case side1 => exact is66_); (case side2 => exact bs_); rintro e w118 ⟨v352, v355, rfl, ho0, ho1, hi, hb, hk⟩; refine ⟨_, rfl, ?_⟩; replace BK347 := Aside0.mk (KeepBut.blk hk (g' := gb347) (o := .cells #[.slice none 0 0, .slice none 0 0] 26 (0, 0)) (bk_ BK347) NB347_350.out (by simp)); have HO353 := Aside0.mk (Kd.R_lower ho0 (below_size bs_)); have HO356 := Aside0.mk (Kd.R_lower ho1 (below_size bs_)); replace HB := Aside0.mk (hb); replace HI350 := Aside0.mk (hi); (try clear hb); (try clear hb2); (try clear hk); (try clear hi); (try clear ho0); (try clear ho1)) | ((with_reducible refine gate_dst (N := 5) rfl ?_); refine be_ 5 26 #[.slice none 0 0, .slice none 0 0] ?_; intro gb358 hg w119 hbox hb; replace HO353 := Aside0.mk (Kd.R_below (kR_ HO353) hb); replace HO356 := Aside0.mk (Kd.R_below (kR_ HO356) hb); have BK358 := Aside0.mk (hbox); have GW358 := Aside0.mk ((by rw [hg]; exact (below_size bs_) : w.heap.size ≤ gb358)); have GE358 := Aside0.mk ((by rw [hg]; exact (below_size bs_) : w.heap.size ≤ gb358)); replace HB := Aside0.mk (below_step bs_ hb); have NB347_358 := Aside0.mk ((by rw [hg]; exact Nat.ne_of_lt (blk_lt (bk_ BK347)) : gb347 ≠ gb358)); have NB358_347 := Aside0.mk ((by rw [hg]; exact Nat.ne_of_gt (blk_lt (bk_ BK347)) : gb358 ≠ gb347)); replace BK347 := Aside0.mk (blk_below (bk_ BK347) hb); have NB350_358 := Aside0.mk ((by rw [hg]; exact Nat.ne_of_lt (IsS66.lt (show IsS66 w _ g350 t348 t357 from is66_)) : g350 ≠ gb358)); have NB358_350 := Aside0.mk ((by rw [hg]; exact Nat.ne_of_gt (IsS66.lt (show IsS66 w _ g350 t348 t357 from is66_)) : gb358 ≠ g350)); replace HI350 := Aside0.mk (IsS66.below is66_ hb); clear hb hbox hg; obtain ⟨Ao120, co120, eo120⟩ := Kd.R_slice HO353.out; subst eo120; have hnb121 := NB358_347.out; have hnc121 := NB347_358.out; have hnb122 := NB358_350.out; have hnc122 := NB350_358.out; have hcz123_0 := bc0_ BK358; have hcz123_1 := bc1_ BK358; have hfz123_0 := blk_frozen BK358.out 0; have hfz123_1 := blk_frozen BK358.out 1; obtain ⟨Ao124, co124, eo124⟩ := Kd.R_slice HO356.out; subst eo124))
     have n0_ : Aside0 (Kd.R k68 68 ((w119.setCell ⟨gb358, 0, none⟩ (.slice Ao120 t351.length co120)).setCell ⟨gb358, 1, none⟩ (.slice Ao124 t354.length co124)) w.heap.size (fun _ => True) (.slice Ao120 t351.length co120) t351) := ⟨by (with_reducible repeat (first | apply Kd.R_alloc | apply Kd.R_drewN | apply Kd.R_drew)); exact Kd.R_mono (Kd.R_far (p := ⟨gb358, 1, none⟩) (Kd.R_far (p := ⟨gb358, 0, none⟩) (Kd.R_types HO353.out BK358.out (by decide)) (fun _ hk => hk.2) (.slice Ao120 t351.length co120)) (fun _ hk => hk.2) (.slice Ao124 t354.length co124)) (fun _ hk => trivial)⟩
     have n1_ : Aside0 (Kd.R k73 73 ((w119.setCell ⟨gb358, 0, none⟩ (.slice Ao120 t351.length co120)).setCell ⟨gb358, 1, none⟩ (.slice Ao124 t354.length co124)) w.heap.size (fun _ => True) (.slice Ao124 t354.length co124) t354) := ⟨by (with_reducible repeat (first | apply Kd.R_alloc | apply Kd.R_drewN | apply Kd.R_drew)); exact Kd.R_mono (Kd.R_far (p := ⟨gb358, 1, none⟩) (Kd.R_far (p := ⟨gb358, 0, none⟩) (Kd.R_types HO356.out BK358.out (by decide)) (fun _ hk => hk.2) (.slice Ao120 t351.length co120)) (fun _ hk => hk.2) (.slice Ao124 t354.length co124)) (fun _ hk => trivial)⟩
     have n2_ : Aside0 (((w119.setCell ⟨gb358, 0, none⟩ (.slice Ao120 t351.length co120)).setCell ⟨gb358, 1, none⟩ (.slice Ao124 t354.length co124)).heap[gb347]? = some (.cells #[.slice none 0 0, .slice none 0 0] 26 (0, 0))) := ⟨by (with_reducible repeat (first | refine blk_drewN ?_ _ | refine blk_drew ?_ | refine blk_alloc ?_ _)); refine blk_far ?_ NB347_358.out _; (with_reducible repeat (first | refine blk_drewN ?_ _ | refine blk_drew ?_ | refine blk_alloc ?_ _)); refine blk_far ?_ NB347_358.out _; (with_reducible repeat (first | refine blk_drewN ?_ _ | refine blk_drew ?_ | refine blk_alloc ?_ _)); exact BK347.out⟩
     have n3_ : Aside0 (((w119.setCell ⟨gb358, 0, none⟩ (.slice Ao120 t351.length co120)).setCell ⟨gb358, 1, none⟩ (.slice Ao124 t354.length co124)).heap[gb358]? = some (.cells #[.slice Ao120 t351.length co120, .slice Ao124 t354.length co124] 26 (0, 0))) := ⟨by (with_reducible repeat (first | refine blk_drewN ?_ _ | refine blk_drew ?_ | refine blk_alloc ?_ _)); refine blk_put (cs := #[.slice Ao120 t351.length co120, .slice none 0 0]) ?_ 1 _ rfl; (with_reducible repeat (first | refine blk_drewN ?_ _ | refine blk_drew ?_ | refine blk_alloc ?_ _)); refine blk_put (cs := #[.slice none 0 0, .slice none 0 0]) ?_ 0 _ rfl; (with_reducible repeat (first | refine blk_drewN ?_ _ | refine blk_drew ?_ | refine blk_alloc ?_ _)); exact BK358.out⟩
     have n4_ : Aside0 (IsS66 w ((w119.setCell ⟨gb358, 0, none⟩ (.slice Ao120 t351.length co120)).setCell ⟨gb358, 1, none⟩ (.slice Ao124 t354.length co124)) g350 t348 t357) := ⟨is66_⟩
     have n5_ : Aside0 (Below w.heap.size w ((w119.setCell ⟨gb358, 0, none⟩ (.slice Ao120 t351.length co120)).setCell ⟨gb358, 1, none⟩ (.slice Ao124 t354.length co124))) := ⟨bs_⟩
     (try clear HO353)
     (try clear HO356)
     (try clear BK347)
     (try clear BK358)
     (try clear HI350)
     (try clear HB)
     generalize ((w119.setCell ⟨gb358, 0, none⟩ (.slice Ao120 t351.length co120)).setCell ⟨gb358, 1, none⟩ (.slice Ao124 t354.length co124)) = w125 at n0_ n1_ n2_ n3_ n4_ n5_ ⊢
     have HO353 := n0_
     have HO356 := n1_
     have BK347 := n2_
     have BK358 := n3_
     have HI350 := n4_
     have HB := n5_
     clear n0_ n1_ n2_ n3_ n4_ n5_
     replace HO353 := Aside0.mk (Kd.R_drew HO353.out)
     replace HO356 := Aside0.mk (Kd.R_drew HO356.out)
     replace BK347 := Aside0.mk (blk_drew BK347.out)
     replace BK358 := Aside0.mk (blk_drew BK358.out)
     replace HI350 := Aside0.mk (IsS66.drew HI350.out)
     replace HB := Aside0.mk (below_drew1 HB.out)
     refine start_ (n := 8) (S := fun w' => w'.cell? ⟨gb358, 0, none⟩ = some (.slice Ao120 t351.length co120) ∧ w'.cell? ⟨gb358, 1, none⟩ = some (.slice Ao124 t354.length co124)) (ds := []) (bm 8 0) (by kernel_rfl) rfl rfl ⟨(blk_cell BK358.out 0).trans rfl, (blk_cell BK358.out 1).trans rfl⟩ (fun hHeld => ?_); refine with_tabW spec_DrawPartsOf.tab3 spec_DrawPartsOf.bits3 (fun HT_ HW_ => ?_)
     generalize w125.drew = w126 at HO353 HO356 BK347 BK358 HI350 HB hHeld ⊢
     refine sp_ 0 (some 11) (bm 8 1) HT_ (h := ?_)
     refine sp_ 3 (some 14) (bm 8 9) HT_ (h := ?_)
     refine sr_ 1 (some 12) (bm 8 11) HT_ HW_ hHeld (h := ?_)
     refine sr_ 4 (some 15) (bm 8 27) HT_ HW_ hHeld (h := ?_)
     refine sn_ 2 (some 13) (bm 8 31) HT_ (fun K hK => ?_)
     refine goes_ Try.func19 (by kernel_rfl) rfl #[.pointer (some ⟨g350, 0, none⟩), .agg #[.slice Ao120 t351.length co120, .slice Ao124 t354.length co124]] (by rfl) rfl rfl (by (try simp only [List.map_toArray, List.map_cons, List.map_nil]); first | done | rfl | (simp only [List.length_drop, List.length_take]; rfl)) ?_
     with_reducible refine (spec_l13Of.calls k g350 t348 t357 _ _ t351 _ _ t354 t359 t360 w _ ?side1 ?side2 ?side3 ?side4 ?side5 ?side6 A4.out).mono ?_
     (case side1 => exact is66_)
     (case side2 => exact bs_)
     (case side3 => exact Kd.C_foot_own (IsS66.apart (show IsS66 w _ g350 t348 t357 from is66_) (kR_ HO353) (by decide)) (fun _ h_ => h_.2))
     (case side4 => exact (Kd.R_reads' HO353.out).2.1)
     (case side5 => exact Kd.C_foot_own (IsS66.apart (show IsS66 w _ g350 t348 t357 from is66_) (kR_ HO356) (by decide)) (fun _ h_ => h_.2))
     (case side6 => exact (Kd.R_reads' HO356.out).2.1)
     rintro e w127 ⟨rfl, hi, hb, hk⟩
     refine ⟨_, rfl, ?_⟩
     replace BK347 := Aside0.mk (KeepBut.blk hk (g' := gb347) (o := .cells #[.slice none 0 0, .slice none 0 0] 26 (0, 0)) (bk_ BK347) NB347_350.out (by simp))
     replace HO353 := Aside0.mk (kaR66_ (kR_ HO353) hk)
     replace HO356 := Aside0.mk (kaR66_ (kR_ HO356) hk)
     replace BK358 := Aside0.mk (KeepBut.blk hk (g' := gb358) (o := .cells #[.slice Ao120 t351.length co120, .slice Ao124 t354.length co124] 26 (0, 0)) (bk_ BK358) NB358_350.out (by simp))
     replace HB := Aside0.mk (hb)
     replace HI350 := Aside0.mk (hi)
     (try clear hb)
     (try clear hb2)
     (try clear hk)
     (try clear hi)
     refine hK.out _ _ ⟨(blk_cell BK358.out 0).trans rfl, (blk_cell BK358.out 1).trans rfl⟩ (fun hHeld => ?_)
     clear hK K
     refine nm_ ?_
     refine sn_ 5 (some 16) (bm 8 63) HT_ (fun K hK => ?_)
     refine goes_ Try.func19 (by kernel_rfl) rfl #[.pointer (some ⟨g350, 0, none⟩), .agg #[.slice Ao120 t351.length co120, .slice Ao124 t354.length co124]] (by rfl) rfl rfl (by (try simp only [List.map_toArray, List.map_cons, List.map_nil]); first | done | rfl | (simp only [List.length_drop, List.length_take]; rfl)) ?_
     with_reducible refine (spec_l13Of.calls k g350 t348 t360 _ _ t351 _ _ t354 t361 t362 w _ ?side1 ?side2 ?side3 ?side4 ?side5 ?side6 A5.out).mono ?_
     (case side1 => exact is66_)
     (case side2 => exact bs_)
     (case side3 => exact Kd.C_foot_own (IsS66.apart (show IsS66 w _ g350 t348 t360 from is66_) (kR_ HO353) (by decide)) (fun _ h_ => h_.2))
     (case side4 => exact (Kd.R_reads' HO353.out).2.1)
     (case side5 => exact Kd.C_foot_own (IsS66.apart (show IsS66 w _ g350 t348 t360 from is66_) (kR_ HO356) (by decide)) (fun _ h_ => h_.2))
     (case side6 => exact (Kd.R_reads' HO356.out).2.1)
     rintro e w128 ⟨rfl, hi, hb, hk⟩
     refine ⟨_, rfl, ?_⟩
     replace BK347 := Aside0.mk (KeepBut.blk hk (g' := gb347) (o := .cells #[.slice none 0 0, .slice none 0 0] 26 (0, 0)) (bk_ BK347) NB347_350.out (by simp))
     replace HO353 := Aside0.mk (kaR66_ (kR_ HO353) hk)
     replace HO356 := Aside0.mk (kaR66_ (kR_ HO356) hk)
     replace BK358 := Aside0.mk (KeepBut.blk hk (g' := gb358) (o := .cells #[.slice Ao120 t351.length co120, .slice Ao124 t354.length co124] 26 (0, 0)) (bk_ BK358) NB358_350.out (by simp))
     replace HB := Aside0.mk (hb)
     replace HI350 := Aside0.mk (hi)
     (try clear hb)
     (try clear hb2)
     (try clear hk)
     (try clear hi)
     refine hK.out _ _ ⟨(blk_cell BK358.out 0).trans rfl, (blk_cell BK358.out 1).trans rfl⟩ (fun hHeld => ?_)
     clear hK K
     refine nm_ ?_
     refine sp_ 6 (some 17) (bm 8 127) HT_ (h := ?_)
     refine sp_ 7 (some 6) (bm 8 255) HT_ (h := ?_)
     refine done_ (done_of HT_.out (by kernel_rfl)) ?_
     try go_wp2_with (first | ((with_reducible refine gate_callee (f := 20) rfl ?_); refine gl_ 19 Try.func20 #[.pointer (some ⟨g350, 0, none⟩), .int .i64 3] ?_; (with_reducible refine (spec_l1Rd_pick.calls k g350 t348 t362 3 t363 t364 w _ ?side1 ?side2 A7.out).mono ?_); (case side1 => exact is66_); (case side2 => exact bs_); rintro e w129 ⟨rfl, hi, hb, hk⟩; refine ⟨_, rfl, ?_⟩; replace BK347 := Aside0.mk (KeepBut.blk hk (g' := gb347) (o := .cells #[.slice none 0 0, .slice none 0 0] 26 (0, 0)) (bk_ BK347) NB347_350.out (by simp)); replace HO353 := Aside0.mk (kaR66_ (kR_ HO353) hk); replace HO356 := Aside0.mk (kaR66_ (kR_ HO356) hk); replace BK358 := Aside0.mk (KeepBut.blk hk (g' := gb358) (o := .cells #[.slice Ao120 t351.length co120, .slice Ao124 t354.length co124] 26 (0, 0)) (bk_ BK358) NB358_350.out (by simp)); replace HB := Aside0.mk (hb); replace HI350 := Aside0.mk (hi); (try clear hb); (try clear hb2); (try clear hk); (try clear hi); have hcz130_0 := bc0_ BK358; have hcz130_1 := bc1_ BK358; have hfz130_0 := blk_frozen BK358.out 0; have hfz130_1 := blk_frozen BK358.out 1; have hnb131 := NB347_350.out; have hnc131 := NB350_347.out; have hcz132_0 := bc0_ BK347; have hcz132_1 := bc1_ BK347; have hfz132_0 := blk_frozen BK347.out 0; have hfz132_1 := blk_frozen BK347.out 1))
     refine bodyPost_ret (results_ct rfl _ _ gb347 26 #[.slice Ao120 t351.length co120, .slice Ao124 t354.length co124] (0, 0) _ rfl bq_ Try.underlying26 rfl (by kernel_rfl)) rfl ?_
     exact ⟨_, _, rfe_, by (with_reducible repeat (first | apply Kd.R_alloc | apply Kd.R_drewN | apply Kd.R_drew)); exact Kd.R_mono (Kd.R_far (p := ⟨gb347, 1, none⟩) (Kd.R_far (p := ⟨gb347, 0, none⟩) (Kd.R_types HO353.out BK347.out (by decide)) (fun _ hk => hk.2) (.slice Ao120 t351.length co120)) (fun _ hk => hk.2) (.slice Ao124 t354.length co124)) (fun _ hk => trivial), by (with_reducible repeat (first | apply Kd.R_alloc | apply Kd.R_drewN | apply Kd.R_drew)); exact Kd.R_mono (Kd.R_far (p := ⟨gb347, 1, none⟩) (Kd.R_far (p := ⟨gb347, 0, none⟩) (Kd.R_types HO356.out BK347.out (by decide)) (fun _ hk => hk.2) (.slice Ao120 t351.length co120)) (fun _ hk => hk.2) (.slice Ao124 t354.length co124)) (fun _ hk => trivial), bs_⟩
   have c75b0 : decide (12 < ((t359 ++ t361).size : Int)) = true := decide_eq_true c75
   try (have c75b0s := c75b0; simp only [ByteArray.size_append, Int.natCast_add] at c75b0s)
   have c75b1 : decide (12 < (t359 ++ t361).size) = true := decide_eq_true (by omega)
   try (have c75b1s := c75b1; simp only [ByteArray.size_append, Int.natCast_add] at c75b1s)
   clear c75
   replace H := Option.bind_eq_some_iff.mp H
   obtain ⟨⟨t369, t370⟩, A760, H⟩ := H; try dsimp only at H
   have A76 := Aside0.mk A760
   clear A760
   replace H := iucc_ H; rcases H with ⟨c77, H⟩ | ⟨c77, H⟩
   · have c77b0 : decide (0 < t369) = false := decide_eq_false c77
     clear c77
     simp only [Option.some.injEq, Prod.mk.injEq] at H
     obtain ⟨rfl, rfl, rfl⟩ := H
     go_enter Try.func5, Try.ntmps5
     try go_wp2_with (first | ((with_reducible refine gate_dst (N := 2) rfl ?_); refine be_ 2 26 #[.slice none 0 0, .slice none 0 0] ?_; intro gb347 hg w98 hbox hb; have BK347 := Aside0.mk (hbox); have GW347 := Aside0.mk ((gs_ hg : w.heap.size ≤ gb347)); have GE347 := Aside0.mk ((gs_ hg : w.heap.size ≤ gb347)); replace HB := Aside0.mk (below_step (bl_) hb); clear hb hbox hg) | ((with_reducible refine gate_callee (f := 17) rfl ?_); refine gl_ 8 Try.func17 #[.slice A0 l0.length c0] ?_; (with_reducible refine (spec_l1Open.calls _ _ l0 t348 t349 w _ ?side1 ?side2 ?side3 A2.out).mono ?_); (case side1 => exact bs_); (case side2 => exact HR0.out); (case side3 => exact HC0.out); rintro e w99 ⟨g350, rfl, hi, hb, hb2⟩; refine ⟨_, rfl, ?_⟩; replace HB := Aside0.mk (hb); have HI350 := Aside0.mk (hi); have NB350_347 := Aside0.mk (IsS66.ne_blk hi (blk_below (bk_ BK347) hb2) (by decide)); have NB347_350 := Aside0.mk (Ne.symm (IsS66.ne_blk hi (blk_below (bk_ BK347) hb2) (by decide))); replace BK347 := Aside0.mk (blk_below (bk_ BK347) hb2); (try clear hb); (try clear hb2); (try clear hk); (try clear hi)) | ((with_reducible refine gate_callee (f := 18) rfl ?_); refine gl_ 10 Try.func18 #[.pointer (some ⟨g350, 0, none⟩)] ?_; (with_reducible refine (spec_l13AnyBook.calls k g350 t348 t349 t351 t354 t357 w _ ?side1 ?side2 A3.out).mono ?_); (case side1 => exact is66_); (case side2 => exact bs_); rintro e w100 ⟨v352, v355, rfl, ho0, ho1, hi, hb, hk⟩; refine ⟨_, rfl, ?_⟩; replace BK347 := Aside0.mk (KeepBut.blk hk (g' := gb347) (o := .cells #[.slice none 0 0, .slice none 0 0] 26 (0, 0)) (bk_ BK347) NB347_350.out (by simp)); have HO353 := Aside0.mk (Kd.R_lower ho0 (below_size bs_)); have HO356 := Aside0.mk (Kd.R_lower ho1 (below_size bs_)); replace HB := Aside0.mk (hb); replace HI350 := Aside0.mk (hi); (try clear hb); (try clear hb2); (try clear hk); (try clear hi); (try clear ho0); (try clear ho1)) | ((with_reducible refine gate_dst (N := 5) rfl ?_); refine be_ 5 26 #[.slice none 0 0, .slice none 0 0] ?_; intro gb358 hg w101 hbox hb; replace HO353 := Aside0.mk (Kd.R_below (kR_ HO353) hb); replace HO356 := Aside0.mk (Kd.R_below (kR_ HO356) hb); have BK358 := Aside0.mk (hbox); have GW358 := Aside0.mk ((by rw [hg]; exact (below_size bs_) : w.heap.size ≤ gb358)); have GE358 := Aside0.mk ((by rw [hg]; exact (below_size bs_) : w.heap.size ≤ gb358)); replace HB := Aside0.mk (below_step bs_ hb); have NB347_358 := Aside0.mk ((by rw [hg]; exact Nat.ne_of_lt (blk_lt (bk_ BK347)) : gb347 ≠ gb358)); have NB358_347 := Aside0.mk ((by rw [hg]; exact Nat.ne_of_gt (blk_lt (bk_ BK347)) : gb358 ≠ gb347)); replace BK347 := Aside0.mk (blk_below (bk_ BK347) hb); have NB350_358 := Aside0.mk ((by rw [hg]; exact Nat.ne_of_lt (IsS66.lt (show IsS66 w _ g350 t348 t357 from is66_)) : g350 ≠ gb358)); have NB358_350 := Aside0.mk ((by rw [hg]; exact Nat.ne_of_gt (IsS66.lt (show IsS66 w _ g350 t348 t357 from is66_)) : gb358 ≠ g350)); replace HI350 := Aside0.mk (IsS66.below is66_ hb); clear hb hbox hg; obtain ⟨Ao102, co102, eo102⟩ := Kd.R_slice HO353.out; subst eo102; have hnb103 := NB358_347.out; have hnc103 := NB347_358.out; have hnb104 := NB358_350.out; have hnc104 := NB350_358.out; have hcz105_0 := bc0_ BK358; have hcz105_1 := bc1_ BK358; have hfz105_0 := blk_frozen BK358.out 0; have hfz105_1 := blk_frozen BK358.out 1; obtain ⟨Ao106, co106, eo106⟩ := Kd.R_slice HO356.out; subst eo106))
     have n0_ : Aside0 (Kd.R k68 68 ((w101.setCell ⟨gb358, 0, none⟩ (.slice Ao102 t351.length co102)).setCell ⟨gb358, 1, none⟩ (.slice Ao106 t354.length co106)) w.heap.size (fun _ => True) (.slice Ao102 t351.length co102) t351) := ⟨by (with_reducible repeat (first | apply Kd.R_alloc | apply Kd.R_drewN | apply Kd.R_drew)); exact Kd.R_mono (Kd.R_far (p := ⟨gb358, 1, none⟩) (Kd.R_far (p := ⟨gb358, 0, none⟩) (Kd.R_types HO353.out BK358.out (by decide)) (fun _ hk => hk.2) (.slice Ao102 t351.length co102)) (fun _ hk => hk.2) (.slice Ao106 t354.length co106)) (fun _ hk => trivial)⟩
     have n1_ : Aside0 (Kd.R k73 73 ((w101.setCell ⟨gb358, 0, none⟩ (.slice Ao102 t351.length co102)).setCell ⟨gb358, 1, none⟩ (.slice Ao106 t354.length co106)) w.heap.size (fun _ => True) (.slice Ao106 t354.length co106) t354) := ⟨by (with_reducible repeat (first | apply Kd.R_alloc | apply Kd.R_drewN | apply Kd.R_drew)); exact Kd.R_mono (Kd.R_far (p := ⟨gb358, 1, none⟩) (Kd.R_far (p := ⟨gb358, 0, none⟩) (Kd.R_types HO356.out BK358.out (by decide)) (fun _ hk => hk.2) (.slice Ao102 t351.length co102)) (fun _ hk => hk.2) (.slice Ao106 t354.length co106)) (fun _ hk => trivial)⟩
     have n2_ : Aside0 (((w101.setCell ⟨gb358, 0, none⟩ (.slice Ao102 t351.length co102)).setCell ⟨gb358, 1, none⟩ (.slice Ao106 t354.length co106)).heap[gb347]? = some (.cells #[.slice none 0 0, .slice none 0 0] 26 (0, 0))) := ⟨by (with_reducible repeat (first | refine blk_drewN ?_ _ | refine blk_drew ?_ | refine blk_alloc ?_ _)); refine blk_far ?_ NB347_358.out _; (with_reducible repeat (first | refine blk_drewN ?_ _ | refine blk_drew ?_ | refine blk_alloc ?_ _)); refine blk_far ?_ NB347_358.out _; (with_reducible repeat (first | refine blk_drewN ?_ _ | refine blk_drew ?_ | refine blk_alloc ?_ _)); exact BK347.out⟩
     have n3_ : Aside0 (((w101.setCell ⟨gb358, 0, none⟩ (.slice Ao102 t351.length co102)).setCell ⟨gb358, 1, none⟩ (.slice Ao106 t354.length co106)).heap[gb358]? = some (.cells #[.slice Ao102 t351.length co102, .slice Ao106 t354.length co106] 26 (0, 0))) := ⟨by (with_reducible repeat (first | refine blk_drewN ?_ _ | refine blk_drew ?_ | refine blk_alloc ?_ _)); refine blk_put (cs := #[.slice Ao102 t351.length co102, .slice none 0 0]) ?_ 1 _ rfl; (with_reducible repeat (first | refine blk_drewN ?_ _ | refine blk_drew ?_ | refine blk_alloc ?_ _)); refine blk_put (cs := #[.slice none 0 0, .slice none 0 0]) ?_ 0 _ rfl; (with_reducible repeat (first | refine blk_drewN ?_ _ | refine blk_drew ?_ | refine blk_alloc ?_ _)); exact BK358.out⟩
     have n4_ : Aside0 (IsS66 w ((w101.setCell ⟨gb358, 0, none⟩ (.slice Ao102 t351.length co102)).setCell ⟨gb358, 1, none⟩ (.slice Ao106 t354.length co106)) g350 t348 t357) := ⟨is66_⟩
     have n5_ : Aside0 (Below w.heap.size w ((w101.setCell ⟨gb358, 0, none⟩ (.slice Ao102 t351.length co102)).setCell ⟨gb358, 1, none⟩ (.slice Ao106 t354.length co106))) := ⟨bs_⟩
     (try clear HO353)
     (try clear HO356)
     (try clear BK347)
     (try clear BK358)
     (try clear HI350)
     (try clear HB)
     generalize ((w101.setCell ⟨gb358, 0, none⟩ (.slice Ao102 t351.length co102)).setCell ⟨gb358, 1, none⟩ (.slice Ao106 t354.length co106)) = w107 at n0_ n1_ n2_ n3_ n4_ n5_ ⊢
     have HO353 := n0_
     have HO356 := n1_
     have BK347 := n2_
     have BK358 := n3_
     have HI350 := n4_
     have HB := n5_
     clear n0_ n1_ n2_ n3_ n4_ n5_
     replace HO353 := Aside0.mk (Kd.R_drew HO353.out)
     replace HO356 := Aside0.mk (Kd.R_drew HO356.out)
     replace BK347 := Aside0.mk (blk_drew BK347.out)
     replace BK358 := Aside0.mk (blk_drew BK358.out)
     replace HI350 := Aside0.mk (IsS66.drew HI350.out)
     replace HB := Aside0.mk (below_drew1 HB.out)
     refine start_ (n := 8) (S := fun w' => w'.cell? ⟨gb358, 0, none⟩ = some (.slice Ao102 t351.length co102) ∧ w'.cell? ⟨gb358, 1, none⟩ = some (.slice Ao106 t354.length co106)) (ds := []) (bm 8 0) (by kernel_rfl) rfl rfl ⟨(blk_cell BK358.out 0).trans rfl, (blk_cell BK358.out 1).trans rfl⟩ (fun hHeld => ?_); refine with_tabW spec_DrawPartsOf.tab3 spec_DrawPartsOf.bits3 (fun HT_ HW_ => ?_)
     generalize w107.drew = w108 at HO353 HO356 BK347 BK358 HI350 HB hHeld ⊢
     refine sp_ 0 (some 11) (bm 8 1) HT_ (h := ?_)
     refine sp_ 3 (some 14) (bm 8 9) HT_ (h := ?_)
     refine sr_ 1 (some 12) (bm 8 11) HT_ HW_ hHeld (h := ?_)
     refine sr_ 4 (some 15) (bm 8 27) HT_ HW_ hHeld (h := ?_)
     refine sn_ 2 (some 13) (bm 8 31) HT_ (fun K hK => ?_)
     refine goes_ Try.func19 (by kernel_rfl) rfl #[.pointer (some ⟨g350, 0, none⟩), .agg #[.slice Ao102 t351.length co102, .slice Ao106 t354.length co106]] (by rfl) rfl rfl (by (try simp only [List.map_toArray, List.map_cons, List.map_nil]); first | done | rfl | (simp only [List.length_drop, List.length_take]; rfl)) ?_
     with_reducible refine (spec_l13Of.calls k g350 t348 t357 _ _ t351 _ _ t354 t359 t360 w _ ?side1 ?side2 ?side3 ?side4 ?side5 ?side6 A4.out).mono ?_
     (case side1 => exact is66_)
     (case side2 => exact bs_)
     (case side3 => exact Kd.C_foot_own (IsS66.apart (show IsS66 w _ g350 t348 t357 from is66_) (kR_ HO353) (by decide)) (fun _ h_ => h_.2))
     (case side4 => exact (Kd.R_reads' HO353.out).2.1)
     (case side5 => exact Kd.C_foot_own (IsS66.apart (show IsS66 w _ g350 t348 t357 from is66_) (kR_ HO356) (by decide)) (fun _ h_ => h_.2))
     (case side6 => exact (Kd.R_reads' HO356.out).2.1)
     rintro e w109 ⟨rfl, hi, hb, hk⟩
     refine ⟨_, rfl, ?_⟩
     replace BK347 := Aside0.mk (KeepBut.blk hk (g' := gb347) (o := .cells #[.slice none 0 0, .slice none 0 0] 26 (0, 0)) (bk_ BK347) NB347_350.out (by simp))
     replace HO353 := Aside0.mk (kaR66_ (kR_ HO353) hk)
     replace HO356 := Aside0.mk (kaR66_ (kR_ HO356) hk)
     replace BK358 := Aside0.mk (KeepBut.blk hk (g' := gb358) (o := .cells #[.slice Ao102 t351.length co102, .slice Ao106 t354.length co106] 26 (0, 0)) (bk_ BK358) NB358_350.out (by simp))
     replace HB := Aside0.mk (hb)
     replace HI350 := Aside0.mk (hi)
     (try clear hb)
     (try clear hb2)
     (try clear hk)
     (try clear hi)
     refine hK.out _ _ ⟨(blk_cell BK358.out 0).trans rfl, (blk_cell BK358.out 1).trans rfl⟩ (fun hHeld => ?_)
     clear hK K
     refine nm_ ?_
     refine sn_ 5 (some 16) (bm 8 63) HT_ (fun K hK => ?_)
     refine goes_ Try.func19 (by kernel_rfl) rfl #[.pointer (some ⟨g350, 0, none⟩), .agg #[.slice Ao102 t351.length co102, .slice Ao106 t354.length co106]] (by rfl) rfl rfl (by (try simp only [List.map_toArray, List.map_cons, List.map_nil]); first | done | rfl | (simp only [List.length_drop, List.length_take]; rfl)) ?_
     with_reducible refine (spec_l13Of.calls k g350 t348 t360 _ _ t351 _ _ t354 t361 t362 w _ ?side1 ?side2 ?side3 ?side4 ?side5 ?side6 A5.out).mono ?_
     (case side1 => exact is66_)
     (case side2 => exact bs_)
     (case side3 => exact Kd.C_foot_own (IsS66.apart (show IsS66 w _ g350 t348 t360 from is66_) (kR_ HO353) (by decide)) (fun _ h_ => h_.2))
     (case side4 => exact (Kd.R_reads' HO353.out).2.1)
     (case side5 => exact Kd.C_foot_own (IsS66.apart (show IsS66 w _ g350 t348 t360 from is66_) (kR_ HO356) (by decide)) (fun _ h_ => h_.2))
     (case side6 => exact (Kd.R_reads' HO356.out).2.1)
     rintro e w110 ⟨rfl, hi, hb, hk⟩
     refine ⟨_, rfl, ?_⟩
     replace BK347 := Aside0.mk (KeepBut.blk hk (g' := gb347) (o := .cells #[.slice none 0 0, .slice none 0 0] 26 (0, 0)) (bk_ BK347) NB347_350.out (by simp))
     replace HO353 := Aside0.mk (kaR66_ (kR_ HO353) hk)
     replace HO356 := Aside0.mk (kaR66_ (kR_ HO356) hk)
     replace BK358 := Aside0.mk (KeepBut.blk hk (g' := gb358) (o := .cells #[.slice Ao102 t351.length co102, .slice Ao106 t354.length co106] 26 (0, 0)) (bk_ BK358) NB358_350.out (by simp))
     replace HB := Aside0.mk (hb)
     replace HI350 := Aside0.mk (hi)
     (try clear hb)
     (try clear hb2)
     (try clear hk)
     (try clear hi)
     refine hK.out _ _ ⟨(blk_cell BK358.out 0).trans rfl, (blk_cell BK358.out 1).trans rfl⟩ (fun hHeld => ?_)
     clear hK K
     refine nm_ ?_
     refine sp_ 6 (some 17) (bm 8 127) HT_ (h := ?_)
     refine sp_ 7 (some 6) (bm 8 255) HT_ (h := ?_)
     refine done_ (done_of HT_.out (by kernel_rfl)) ?_
     try go_wp2_with (first | ((with_reducible refine gate_callee (f := 20) rfl ?_); refine gl_ 19 Try.func20 #[.pointer (some ⟨g350, 0, none⟩), .int .i64 3] ?_; (with_reducible refine (spec_l1Rd_pick.calls k g350 t348 t362 3 t363 t364 w _ ?side1 ?side2 A7.out).mono ?_); (case side1 => exact is66_); (case side2 => exact bs_); rintro e w111 ⟨rfl, hi, hb, hk⟩; refine ⟨_, rfl, ?_⟩; replace BK347 := Aside0.mk (KeepBut.blk hk (g' := gb347) (o := .cells #[.slice none 0 0, .slice none 0 0] 26 (0, 0)) (bk_ BK347) NB347_350.out (by simp)); replace HO353 := Aside0.mk (kaR66_ (kR_ HO353) hk); replace HO356 := Aside0.mk (kaR66_ (kR_ HO356) hk); replace BK358 := Aside0.mk (KeepBut.blk hk (g' := gb358) (o := .cells #[.slice Ao102 t351.length co102, .slice Ao106 t354.length co106] 26 (0, 0)) (bk_ BK358) NB358_350.out (by simp)); replace HB := Aside0.mk (hb); replace HI350 := Aside0.mk (hi); (try clear hb); (try clear hb2); (try clear hk); (try clear hi)) | (go_at_call 20; (with_reducible refine (spec_l1Rd_pick.calls k g350 t348 t364 4 t369 t370 w _ ?side1 ?side2 A76.out).mono ?_); (case side1 => exact is66_); (case side2 => exact bs_); rintro e w112 ⟨rfl, hi, hb, hk⟩; replace BK347 := Aside0.mk (KeepBut.blk hk (g' := gb347) (o := .cells #[.slice none 0 0, .slice none 0 0] 26 (0, 0)) (bk_ BK347) NB347_350.out (by simp)); replace HO353 := Aside0.mk (kaR66_ (kR_ HO353) hk); replace HO356 := Aside0.mk (kaR66_ (kR_ HO356) hk); replace BK358 := Aside0.mk (KeepBut.blk hk (g' := gb358) (o := .cells #[.slice Ao102 t351.length co102, .slice Ao106 t354.length co106] 26 (0, 0)) (bk_ BK358) NB358_350.out (by simp)); replace HB := Aside0.mk (hb); replace HI350 := Aside0.mk (hi); (try clear hb); (try clear hb2); (try clear hk); (try clear hi); have hcz113_0 := bc0_ BK358; have hcz113_1 := bc1_ BK358; have hfz113_0 := blk_frozen BK358.out 0; have hfz113_1 := blk_frozen BK358.out 1; have hnb114 := NB347_350.out; have hnc114 := NB350_347.out; have hcz115_0 := bc0_ BK347; have hcz115_1 := bc1_ BK347; have hfz115_0 := blk_frozen BK347.out 0; have hfz115_1 := blk_frozen BK347.out 1))
     refine bodyPost_ret (results_ct rfl _ _ gb347 26 #[.slice Ao102 t351.length co102, .slice Ao106 t354.length co106] (0, 0) _ rfl bq_ Try.underlying26 rfl (by kernel_rfl)) rfl ?_
     exact ⟨_, _, rfe_, by (with_reducible repeat (first | apply Kd.R_alloc | apply Kd.R_drewN | apply Kd.R_drew)); exact Kd.R_mono (Kd.R_far (p := ⟨gb347, 1, none⟩) (Kd.R_far (p := ⟨gb347, 0, none⟩) (Kd.R_types HO353.out BK347.out (by decide)) (fun _ hk => hk.2) (.slice Ao102 t351.length co102)) (fun _ hk => hk.2) (.slice Ao106 t354.length co106)) (fun _ hk => trivial), by (with_reducible repeat (first | apply Kd.R_alloc | apply Kd.R_drewN | apply Kd.R_drew)); exact Kd.R_mono (Kd.R_far (p := ⟨gb347, 1, none⟩) (Kd.R_far (p := ⟨gb347, 0, none⟩) (Kd.R_types HO356.out BK347.out (by decide)) (fun _ hk => hk.2) (.slice Ao102 t351.length co102)) (fun _ hk => hk.2) (.slice Ao106 t354.length co106)) (fun _ hk => trivial), bs_⟩
   have c77b0 : decide (0 < t369) = true := decide_eq_true c77
   clear c77
   replace H := inc_ H; obtain ⟨c78, H⟩ := H
   have c78b0 := eq_true c78
   have c78b1 : decide (0 ≤ 12) = true := decide_eq_true c78
   clear c78
   replace H := inc_ H; obtain ⟨c79, H⟩ := H
   have c79b0 := eq_true c79
   have c79b1 : decide (12 ≤ ((t359 ++ t361).size : Int)) = true := decide_eq_true c79
   try (have c79b1s := c79b1; simp only [ByteArray.size_append, Int.natCast_add] at c79b1s)
   simp only [Option.some.injEq, Prod.mk.injEq] at H
   obtain ⟨rfl, rfl, rfl⟩ := H
   go_enter Try.func5, Try.ntmps5
   try go_wp2_with (first | ((with_reducible refine gate_dst (N := 2) rfl ?_); refine be_ 2 26 #[.slice none 0 0, .slice none 0 0] ?_; intro gb347 hg w80 hbox hb; have BK347 := Aside0.mk (hbox); have GW347 := Aside0.mk ((gs_ hg : w.heap.size ≤ gb347)); have GE347 := Aside0.mk ((gs_ hg : w.heap.size ≤ gb347)); replace HB := Aside0.mk (below_step (bl_) hb); clear hb hbox hg) | ((with_reducible refine gate_callee (f := 17) rfl ?_); refine gl_ 8 Try.func17 #[.slice A0 l0.length c0] ?_; (with_reducible refine (spec_l1Open.calls _ _ l0 t348 t349 w _ ?side1 ?side2 ?side3 A2.out).mono ?_); (case side1 => exact bs_); (case side2 => exact HR0.out); (case side3 => exact HC0.out); rintro e w81 ⟨g350, rfl, hi, hb, hb2⟩; refine ⟨_, rfl, ?_⟩; replace HB := Aside0.mk (hb); have HI350 := Aside0.mk (hi); have NB350_347 := Aside0.mk (IsS66.ne_blk hi (blk_below (bk_ BK347) hb2) (by decide)); have NB347_350 := Aside0.mk (Ne.symm (IsS66.ne_blk hi (blk_below (bk_ BK347) hb2) (by decide))); replace BK347 := Aside0.mk (blk_below (bk_ BK347) hb2); (try clear hb); (try clear hb2); (try clear hk); (try clear hi)) | ((with_reducible refine gate_callee (f := 18) rfl ?_); refine gl_ 10 Try.func18 #[.pointer (some ⟨g350, 0, none⟩)] ?_; (with_reducible refine (spec_l13AnyBook.calls k g350 t348 t349 t351 t354 t357 w _ ?side1 ?side2 A3.out).mono ?_); (case side1 => exact is66_); (case side2 => exact bs_); rintro e w82 ⟨v352, v355, rfl, ho0, ho1, hi, hb, hk⟩; refine ⟨_, rfl, ?_⟩; replace BK347 := Aside0.mk (KeepBut.blk hk (g' := gb347) (o := .cells #[.slice none 0 0, .slice none 0 0] 26 (0, 0)) (bk_ BK347) NB347_350.out (by simp)); have HO353 := Aside0.mk (Kd.R_lower ho0 (below_size bs_)); have HO356 := Aside0.mk (Kd.R_lower ho1 (below_size bs_)); replace HB := Aside0.mk (hb); replace HI350 := Aside0.mk (hi); (try clear hb); (try clear hb2); (try clear hk); (try clear hi); (try clear ho0); (try clear ho1)) | ((with_reducible refine gate_dst (N := 5) rfl ?_); refine be_ 5 26 #[.slice none 0 0, .slice none 0 0] ?_; intro gb358 hg w83 hbox hb; replace HO353 := Aside0.mk (Kd.R_below (kR_ HO353) hb); replace HO356 := Aside0.mk (Kd.R_below (kR_ HO356) hb); have BK358 := Aside0.mk (hbox); have GW358 := Aside0.mk ((by rw [hg]; exact (below_size bs_) : w.heap.size ≤ gb358)); have GE358 := Aside0.mk ((by rw [hg]; exact (below_size bs_) : w.heap.size ≤ gb358)); replace HB := Aside0.mk (below_step bs_ hb); have NB347_358 := Aside0.mk ((by rw [hg]; exact Nat.ne_of_lt (blk_lt (bk_ BK347)) : gb347 ≠ gb358)); have NB358_347 := Aside0.mk ((by rw [hg]; exact Nat.ne_of_gt (blk_lt (bk_ BK347)) : gb358 ≠ gb347)); replace BK347 := Aside0.mk (blk_below (bk_ BK347) hb); have NB350_358 := Aside0.mk ((by rw [hg]; exact Nat.ne_of_lt (IsS66.lt (show IsS66 w _ g350 t348 t357 from is66_)) : g350 ≠ gb358)); have NB358_350 := Aside0.mk ((by rw [hg]; exact Nat.ne_of_gt (IsS66.lt (show IsS66 w _ g350 t348 t357 from is66_)) : gb358 ≠ g350)); replace HI350 := Aside0.mk (IsS66.below is66_ hb); clear hb hbox hg; obtain ⟨Ao84, co84, eo84⟩ := Kd.R_slice HO353.out; subst eo84; have hnb85 := NB358_347.out; have hnc85 := NB347_358.out; have hnb86 := NB358_350.out; have hnc86 := NB350_358.out; have hcz87_0 := bc0_ BK358; have hcz87_1 := bc1_ BK358; have hfz87_0 := blk_frozen BK358.out 0; have hfz87_1 := blk_frozen BK358.out 1; obtain ⟨Ao88, co88, eo88⟩ := Kd.R_slice HO356.out; subst eo88))
   have n0_ : Aside0 (Kd.R k68 68 ((w83.setCell ⟨gb358, 0, none⟩ (.slice Ao84 t351.length co84)).setCell ⟨gb358, 1, none⟩ (.slice Ao88 t354.length co88)) w.heap.size (fun _ => True) (.slice Ao84 t351.length co84) t351) := ⟨by (with_reducible repeat (first | apply Kd.R_alloc | apply Kd.R_drewN | apply Kd.R_drew)); exact Kd.R_mono (Kd.R_far (p := ⟨gb358, 1, none⟩) (Kd.R_far (p := ⟨gb358, 0, none⟩) (Kd.R_types HO353.out BK358.out (by decide)) (fun _ hk => hk.2) (.slice Ao84 t351.length co84)) (fun _ hk => hk.2) (.slice Ao88 t354.length co88)) (fun _ hk => trivial)⟩
   have n1_ : Aside0 (Kd.R k73 73 ((w83.setCell ⟨gb358, 0, none⟩ (.slice Ao84 t351.length co84)).setCell ⟨gb358, 1, none⟩ (.slice Ao88 t354.length co88)) w.heap.size (fun _ => True) (.slice Ao88 t354.length co88) t354) := ⟨by (with_reducible repeat (first | apply Kd.R_alloc | apply Kd.R_drewN | apply Kd.R_drew)); exact Kd.R_mono (Kd.R_far (p := ⟨gb358, 1, none⟩) (Kd.R_far (p := ⟨gb358, 0, none⟩) (Kd.R_types HO356.out BK358.out (by decide)) (fun _ hk => hk.2) (.slice Ao84 t351.length co84)) (fun _ hk => hk.2) (.slice Ao88 t354.length co88)) (fun _ hk => trivial)⟩
   have n2_ : Aside0 (((w83.setCell ⟨gb358, 0, none⟩ (.slice Ao84 t351.length co84)).setCell ⟨gb358, 1, none⟩ (.slice Ao88 t354.length co88)).heap[gb347]? = some (.cells #[.slice none 0 0, .slice none 0 0] 26 (0, 0))) := ⟨by (with_reducible repeat (first | refine blk_drewN ?_ _ | refine blk_drew ?_ | refine blk_alloc ?_ _)); refine blk_far ?_ NB347_358.out _; (with_reducible repeat (first | refine blk_drewN ?_ _ | refine blk_drew ?_ | refine blk_alloc ?_ _)); refine blk_far ?_ NB347_358.out _; (with_reducible repeat (first | refine blk_drewN ?_ _ | refine blk_drew ?_ | refine blk_alloc ?_ _)); exact BK347.out⟩
   have n3_ : Aside0 (((w83.setCell ⟨gb358, 0, none⟩ (.slice Ao84 t351.length co84)).setCell ⟨gb358, 1, none⟩ (.slice Ao88 t354.length co88)).heap[gb358]? = some (.cells #[.slice Ao84 t351.length co84, .slice Ao88 t354.length co88] 26 (0, 0))) := ⟨by (with_reducible repeat (first | refine blk_drewN ?_ _ | refine blk_drew ?_ | refine blk_alloc ?_ _)); refine blk_put (cs := #[.slice Ao84 t351.length co84, .slice none 0 0]) ?_ 1 _ rfl; (with_reducible repeat (first | refine blk_drewN ?_ _ | refine blk_drew ?_ | refine blk_alloc ?_ _)); refine blk_put (cs := #[.slice none 0 0, .slice none 0 0]) ?_ 0 _ rfl; (with_reducible repeat (first | refine blk_drewN ?_ _ | refine blk_drew ?_ | refine blk_alloc ?_ _)); exact BK358.out⟩
   have n4_ : Aside0 (IsS66 w ((w83.setCell ⟨gb358, 0, none⟩ (.slice Ao84 t351.length co84)).setCell ⟨gb358, 1, none⟩ (.slice Ao88 t354.length co88)) g350 t348 t357) := ⟨is66_⟩
   have n5_ : Aside0 (Below w.heap.size w ((w83.setCell ⟨gb358, 0, none⟩ (.slice Ao84 t351.length co84)).setCell ⟨gb358, 1, none⟩ (.slice Ao88 t354.length co88))) := ⟨bs_⟩
   (try clear HO353)
   (try clear HO356)
   (try clear BK347)
   (try clear BK358)
   (try clear HI350)
   (try clear HB)
   generalize ((w83.setCell ⟨gb358, 0, none⟩ (.slice Ao84 t351.length co84)).setCell ⟨gb358, 1, none⟩ (.slice Ao88 t354.length co88)) = w89 at n0_ n1_ n2_ n3_ n4_ n5_ ⊢
   have HO353 := n0_
   have HO356 := n1_
   have BK347 := n2_
   have BK358 := n3_
   have HI350 := n4_
   have HB := n5_
   clear n0_ n1_ n2_ n3_ n4_ n5_
   replace HO353 := Aside0.mk (Kd.R_drew HO353.out)
   replace HO356 := Aside0.mk (Kd.R_drew HO356.out)
   replace BK347 := Aside0.mk (blk_drew BK347.out)
   replace BK358 := Aside0.mk (blk_drew BK358.out)
   replace HI350 := Aside0.mk (IsS66.drew HI350.out)
   replace HB := Aside0.mk (below_drew1 HB.out)
   refine start_ (n := 8) (S := fun w' => w'.cell? ⟨gb358, 0, none⟩ = some (.slice Ao84 t351.length co84) ∧ w'.cell? ⟨gb358, 1, none⟩ = some (.slice Ao88 t354.length co88)) (ds := []) (bm 8 0) (by kernel_rfl) rfl rfl ⟨(blk_cell BK358.out 0).trans rfl, (blk_cell BK358.out 1).trans rfl⟩ (fun hHeld => ?_); refine with_tabW spec_DrawPartsOf.tab3 spec_DrawPartsOf.bits3 (fun HT_ HW_ => ?_)
   generalize w89.drew = w90 at HO353 HO356 BK347 BK358 HI350 HB hHeld ⊢
   refine sp_ 0 (some 11) (bm 8 1) HT_ (h := ?_)
   refine sp_ 3 (some 14) (bm 8 9) HT_ (h := ?_)
   refine sr_ 1 (some 12) (bm 8 11) HT_ HW_ hHeld (h := ?_)
   refine sr_ 4 (some 15) (bm 8 27) HT_ HW_ hHeld (h := ?_)
   refine sn_ 2 (some 13) (bm 8 31) HT_ (fun K hK => ?_)
   refine goes_ Try.func19 (by kernel_rfl) rfl #[.pointer (some ⟨g350, 0, none⟩), .agg #[.slice Ao84 t351.length co84, .slice Ao88 t354.length co88]] (by rfl) rfl rfl (by (try simp only [List.map_toArray, List.map_cons, List.map_nil]); first | done | rfl | (simp only [List.length_drop, List.length_take]; rfl)) ?_
   with_reducible refine (spec_l13Of.calls k g350 t348 t357 _ _ t351 _ _ t354 t359 t360 w _ ?side1 ?side2 ?side3 ?side4 ?side5 ?side6 A4.out).mono ?_
   (case side1 => exact is66_)
   (case side2 => exact bs_)
   (case side3 => exact Kd.C_foot_own (IsS66.apart (show IsS66 w _ g350 t348 t357 from is66_) (kR_ HO353) (by decide)) (fun _ h_ => h_.2))
   (case side4 => exact (Kd.R_reads' HO353.out).2.1)
   (case side5 => exact Kd.C_foot_own (IsS66.apart (show IsS66 w _ g350 t348 t357 from is66_) (kR_ HO356) (by decide)) (fun _ h_ => h_.2))
   (case side6 => exact (Kd.R_reads' HO356.out).2.1)
   rintro e w91 ⟨rfl, hi, hb, hk⟩
   refine ⟨_, rfl, ?_⟩
   replace BK347 := Aside0.mk (KeepBut.blk hk (g' := gb347) (o := .cells #[.slice none 0 0, .slice none 0 0] 26 (0, 0)) (bk_ BK347) NB347_350.out (by simp))
   replace HO353 := Aside0.mk (kaR66_ (kR_ HO353) hk)
   replace HO356 := Aside0.mk (kaR66_ (kR_ HO356) hk)
   replace BK358 := Aside0.mk (KeepBut.blk hk (g' := gb358) (o := .cells #[.slice Ao84 t351.length co84, .slice Ao88 t354.length co88] 26 (0, 0)) (bk_ BK358) NB358_350.out (by simp))
   replace HB := Aside0.mk (hb)
   replace HI350 := Aside0.mk (hi)
   (try clear hb)
   (try clear hb2)
   (try clear hk)
   (try clear hi)
   refine hK.out _ _ ⟨(blk_cell BK358.out 0).trans rfl, (blk_cell BK358.out 1).trans rfl⟩ (fun hHeld => ?_)
   clear hK K
   refine nm_ ?_
   refine sn_ 5 (some 16) (bm 8 63) HT_ (fun K hK => ?_)
   refine goes_ Try.func19 (by kernel_rfl) rfl #[.pointer (some ⟨g350, 0, none⟩), .agg #[.slice Ao84 t351.length co84, .slice Ao88 t354.length co88]] (by rfl) rfl rfl (by (try simp only [List.map_toArray, List.map_cons, List.map_nil]); first | done | rfl | (simp only [List.length_drop, List.length_take]; rfl)) ?_
   with_reducible refine (spec_l13Of.calls k g350 t348 t360 _ _ t351 _ _ t354 t361 t362 w _ ?side1 ?side2 ?side3 ?side4 ?side5 ?side6 A5.out).mono ?_
   (case side1 => exact is66_)
   (case side2 => exact bs_)
   (case side3 => exact Kd.C_foot_own (IsS66.apart (show IsS66 w _ g350 t348 t360 from is66_) (kR_ HO353) (by decide)) (fun _ h_ => h_.2))
   (case side4 => exact (Kd.R_reads' HO353.out).2.1)
   (case side5 => exact Kd.C_foot_own (IsS66.apart (show IsS66 w _ g350 t348 t360 from is66_) (kR_ HO356) (by decide)) (fun _ h_ => h_.2))
   (case side6 => exact (Kd.R_reads' HO356.out).2.1)
   rintro e w92 ⟨rfl, hi, hb, hk⟩
   refine ⟨_, rfl, ?_⟩
   replace BK347 := Aside0.mk (KeepBut.blk hk (g' := gb347) (o := .cells #[.slice none 0 0, .slice none 0 0] 26 (0, 0)) (bk_ BK347) NB347_350.out (by simp))
   replace HO353 := Aside0.mk (kaR66_ (kR_ HO353) hk)
   replace HO356 := Aside0.mk (kaR66_ (kR_ HO356) hk)
   replace BK358 := Aside0.mk (KeepBut.blk hk (g' := gb358) (o := .cells #[.slice Ao84 t351.length co84, .slice Ao88 t354.length co88] 26 (0, 0)) (bk_ BK358) NB358_350.out (by simp))
   replace HB := Aside0.mk (hb)
   replace HI350 := Aside0.mk (hi)
   (try clear hb)
   (try clear hb2)
   (try clear hk)
   (try clear hi)
   refine hK.out _ _ ⟨(blk_cell BK358.out 0).trans rfl, (blk_cell BK358.out 1).trans rfl⟩ (fun hHeld => ?_)
   clear hK K
   refine nm_ ?_
   refine sp_ 6 (some 17) (bm 8 127) HT_ (h := ?_)
   refine sp_ 7 (some 6) (bm 8 255) HT_ (h := ?_)
   refine done_ (done_of HT_.out (by kernel_rfl)) ?_
   try go_wp2_with (first | ((with_reducible refine gate_callee (f := 20) rfl ?_); refine gl_ 19 Try.func20 #[.pointer (some ⟨g350, 0, none⟩), .int .i64 3] ?_; (with_reducible refine (spec_l1Rd_pick.calls k g350 t348 t362 3 t363 t364 w _ ?side1 ?side2 A7.out).mono ?_); (case side1 => exact is66_); (case side2 => exact bs_); rintro e w93 ⟨rfl, hi, hb, hk⟩; refine ⟨_, rfl, ?_⟩; replace BK347 := Aside0.mk (KeepBut.blk hk (g' := gb347) (o := .cells #[.slice none 0 0, .slice none 0 0] 26 (0, 0)) (bk_ BK347) NB347_350.out (by simp)); replace HO353 := Aside0.mk (kaR66_ (kR_ HO353) hk); replace HO356 := Aside0.mk (kaR66_ (kR_ HO356) hk); replace BK358 := Aside0.mk (KeepBut.blk hk (g' := gb358) (o := .cells #[.slice Ao84 t351.length co84, .slice Ao88 t354.length co88] 26 (0, 0)) (bk_ BK358) NB358_350.out (by simp)); replace HB := Aside0.mk (hb); replace HI350 := Aside0.mk (hi); (try clear hb); (try clear hb2); (try clear hk); (try clear hi)) | (go_at_call 20; (with_reducible refine (spec_l1Rd_pick.calls k g350 t348 t364 4 t369 t370 w _ ?side1 ?side2 A76.out).mono ?_); (case side1 => exact is66_); (case side2 => exact bs_); rintro e w94 ⟨rfl, hi, hb, hk⟩; replace BK347 := Aside0.mk (KeepBut.blk hk (g' := gb347) (o := .cells #[.slice none 0 0, .slice none 0 0] 26 (0, 0)) (bk_ BK347) NB347_350.out (by simp)); replace HO353 := Aside0.mk (kaR66_ (kR_ HO353) hk); replace HO356 := Aside0.mk (kaR66_ (kR_ HO356) hk); replace BK358 := Aside0.mk (KeepBut.blk hk (g' := gb358) (o := .cells #[.slice Ao84 t351.length co84, .slice Ao88 t354.length co88] 26 (0, 0)) (bk_ BK358) NB358_350.out (by simp)); replace HB := Aside0.mk (hb); replace HI350 := Aside0.mk (hi); (try clear hb); (try clear hb2); (try clear hk); (try clear hi); have hcz95_0 := bc0_ BK358; have hcz95_1 := bc1_ BK358; have hfz95_0 := blk_frozen BK358.out 0; have hfz95_1 := blk_frozen BK358.out 1; have hnb96 := NB347_350.out; have hnc96 := NB350_347.out; have hcz97_0 := bc0_ BK347; have hcz97_1 := bc1_ BK347; have hfz97_0 := blk_frozen BK347.out 0; have hfz97_1 := blk_frozen BK347.out 1))
   refine bodyPost_ret (results_ct rfl _ _ gb347 26 #[.slice Ao84 t351.length co84, .slice Ao88 t354.length co88] (0, 0) _ rfl bq_ Try.underlying26 rfl (by kernel_rfl)) rfl ?_
   exact ⟨_, _, rfe_, by (with_reducible repeat (first | apply Kd.R_alloc | apply Kd.R_drewN | apply Kd.R_drew)); exact Kd.R_mono (Kd.R_far (p := ⟨gb347, 1, none⟩) (Kd.R_far (p := ⟨gb347, 0, none⟩) (Kd.R_types HO353.out BK347.out (by decide)) (fun _ hk => hk.2) (.slice Ao84 t351.length co84)) (fun _ hk => hk.2) (.slice Ao88 t354.length co88)) (fun _ hk => trivial), by (with_reducible repeat (first | apply Kd.R_alloc | apply Kd.R_drewN | apply Kd.R_drew)); exact Kd.R_mono (Kd.R_far (p := ⟨gb347, 1, none⟩) (Kd.R_far (p := ⟨gb347, 0, none⟩) (Kd.R_types HO356.out BK347.out (by decide)) (fun _ hk => hk.2) (.slice Ao84 t351.length co84)) (fun _ hk => hk.2) (.slice Ao88 t354.length co88)) (fun _ hk => trivial), bs_⟩
 have c8b0 : (t363 == 0) = true := beq_iff_eq.mpr c8
 have c8b1 : (t363 != 0) = false := bne_eq_false_iff_eq.mpr c8
 clear c8
 replace H := Option.bind_eq_some_iff.mp H
 obtain ⟨⟨t365, t366⟩, A90, H⟩ := H; try dsimp only at H
 have A9 := Aside0.mk A90
 clear A90
 replace H := inc_ H; obtain ⟨c10, H⟩ := H
 have c10b0 := eq_true c10
 have c10b1 : decide (t359.size + t361.size + t365.size ≤ 9223372036854775807) = true := decide_eq_true c10
 try have c10b2 : (9223372036854775807 < t359.size + t361.size + t365.size) = False := eq_false (Nat.not_lt.2 c10)
 replace H := iucc_ H; rcases H with ⟨c11, H⟩ | ⟨c11, H⟩
 · have c11b0 : decide (12 < (((t359 ++ t361) ++ t365).size : Int)) = false := decide_eq_false c11
   try (have c11b0s := c11b0; simp only [ByteArray.size_append, Int.natCast_add] at c11b0s)
   have c11b1 : decide (12 < ((t359 ++ t361) ++ t365).size) = false := decide_eq_false (by omega)
   try (have c11b1s := c11b1; simp only [ByteArray.size_append, Int.natCast_add] at c11b1s)
   clear c11
   simp only [Option.some.injEq, Prod.mk.injEq] at H
   obtain ⟨rfl, rfl, rfl⟩ := H
   go_enter Try.func5, Try.ntmps5
   try go_wp2_with (first | ((with_reducible refine gate_dst (N := 2) rfl ?_); refine be_ 2 26 #[.slice none 0 0, .slice none 0 0] ?_; intro gb347 hg w56 hbox hb; have BK347 := Aside0.mk (hbox); have GW347 := Aside0.mk ((gs_ hg : w.heap.size ≤ gb347)); have GE347 := Aside0.mk ((gs_ hg : w.heap.size ≤ gb347)); replace HB := Aside0.mk (below_step (bl_) hb); clear hb hbox hg) | ((with_reducible refine gate_callee (f := 17) rfl ?_); refine gl_ 8 Try.func17 #[.slice A0 l0.length c0] ?_; (with_reducible refine (spec_l1Open.calls _ _ l0 t348 t349 w _ ?side1 ?side2 ?side3 A2.out).mono ?_); (case side1 => exact bs_); (case side2 => exact HR0.out); (case side3 => exact HC0.out); rintro e w57 ⟨g350, rfl, hi, hb, hb2⟩; refine ⟨_, rfl, ?_⟩; replace HB := Aside0.mk (hb); have HI350 := Aside0.mk (hi); have NB350_347 := Aside0.mk (IsS66.ne_blk hi (blk_below (bk_ BK347) hb2) (by decide)); have NB347_350 := Aside0.mk (Ne.symm (IsS66.ne_blk hi (blk_below (bk_ BK347) hb2) (by decide))); replace BK347 := Aside0.mk (blk_below (bk_ BK347) hb2); (try clear hb); (try clear hb2); (try clear hk); (try clear hi)) | ((with_reducible refine gate_callee (f := 18) rfl ?_); refine gl_ 10 Try.func18 #[.pointer (some ⟨g350, 0, none⟩)] ?_; (with_reducible refine (spec_l13AnyBook.calls k g350 t348 t349 t351 t354 t357 w _ ?side1 ?side2 A3.out).mono ?_); (case side1 => exact is66_); (case side2 => exact bs_); rintro e w58 ⟨v352, v355, rfl, ho0, ho1, hi, hb, hk⟩; refine ⟨_, rfl, ?_⟩; replace BK347 := Aside0.mk (KeepBut.blk hk (g' := gb347) (o := .cells #[.slice none 0 0, .slice none 0 0] 26 (0, 0)) (bk_ BK347) NB347_350.out (by simp)); have HO353 := Aside0.mk (Kd.R_lower ho0 (below_size bs_)); have HO356 := Aside0.mk (Kd.R_lower ho1 (below_size bs_)); replace HB := Aside0.mk (hb); replace HI350 := Aside0.mk (hi); (try clear hb); (try clear hb2); (try clear hk); (try clear hi); (try clear ho0); (try clear ho1)) | ((with_reducible refine gate_dst (N := 5) rfl ?_); refine be_ 5 26 #[.slice none 0 0, .slice none 0 0] ?_; intro gb358 hg w59 hbox hb; replace HO353 := Aside0.mk (Kd.R_below (kR_ HO353) hb); replace HO356 := Aside0.mk (Kd.R_below (kR_ HO356) hb); have BK358 := Aside0.mk (hbox); have GW358 := Aside0.mk ((by rw [hg]; exact (below_size bs_) : w.heap.size ≤ gb358)); have GE358 := Aside0.mk ((by rw [hg]; exact (below_size bs_) : w.heap.size ≤ gb358)); replace HB := Aside0.mk (below_step bs_ hb); have NB347_358 := Aside0.mk ((by rw [hg]; exact Nat.ne_of_lt (blk_lt (bk_ BK347)) : gb347 ≠ gb358)); have NB358_347 := Aside0.mk ((by rw [hg]; exact Nat.ne_of_gt (blk_lt (bk_ BK347)) : gb358 ≠ gb347)); replace BK347 := Aside0.mk (blk_below (bk_ BK347) hb); have NB350_358 := Aside0.mk ((by rw [hg]; exact Nat.ne_of_lt (IsS66.lt (show IsS66 w _ g350 t348 t357 from is66_)) : g350 ≠ gb358)); have NB358_350 := Aside0.mk ((by rw [hg]; exact Nat.ne_of_gt (IsS66.lt (show IsS66 w _ g350 t348 t357 from is66_)) : gb358 ≠ g350)); replace HI350 := Aside0.mk (IsS66.below is66_ hb); clear hb hbox hg; obtain ⟨Ao60, co60, eo60⟩ := Kd.R_slice HO353.out; subst eo60; have hnb61 := NB358_347.out; have hnc61 := NB347_358.out; have hnb62 := NB358_350.out; have hnc62 := NB350_358.out; have hcz63_0 := bc0_ BK358; have hcz63_1 := bc1_ BK358; have hfz63_0 := blk_frozen BK358.out 0; have hfz63_1 := blk_frozen BK358.out 1; obtain ⟨Ao64, co64, eo64⟩ := Kd.R_slice HO356.out; subst eo64))
   have n0_ : Aside0 (Kd.R k68 68 ((w59.setCell ⟨gb358, 0, none⟩ (.slice Ao60 t351.length co60)).setCell ⟨gb358, 1, none⟩ (.slice Ao64 t354.length co64)) w.heap.size (fun _ => True) (.slice Ao60 t351.length co60) t351) := ⟨by (with_reducible repeat (first | apply Kd.R_alloc | apply Kd.R_drewN | apply Kd.R_drew)); exact Kd.R_mono (Kd.R_far (p := ⟨gb358, 1, none⟩) (Kd.R_far (p := ⟨gb358, 0, none⟩) (Kd.R_types HO353.out BK358.out (by decide)) (fun _ hk => hk.2) (.slice Ao60 t351.length co60)) (fun _ hk => hk.2) (.slice Ao64 t354.length co64)) (fun _ hk => trivial)⟩
   have n1_ : Aside0 (Kd.R k73 73 ((w59.setCell ⟨gb358, 0, none⟩ (.slice Ao60 t351.length co60)).setCell ⟨gb358, 1, none⟩ (.slice Ao64 t354.length co64)) w.heap.size (fun _ => True) (.slice Ao64 t354.length co64) t354) := ⟨by (with_reducible repeat (first | apply Kd.R_alloc | apply Kd.R_drewN | apply Kd.R_drew)); exact Kd.R_mono (Kd.R_far (p := ⟨gb358, 1, none⟩) (Kd.R_far (p := ⟨gb358, 0, none⟩) (Kd.R_types HO356.out BK358.out (by decide)) (fun _ hk => hk.2) (.slice Ao60 t351.length co60)) (fun _ hk => hk.2) (.slice Ao64 t354.length co64)) (fun _ hk => trivial)⟩
   have n2_ : Aside0 (((w59.setCell ⟨gb358, 0, none⟩ (.slice Ao60 t351.length co60)).setCell ⟨gb358, 1, none⟩ (.slice Ao64 t354.length co64)).heap[gb347]? = some (.cells #[.slice none 0 0, .slice none 0 0] 26 (0, 0))) := ⟨by (with_reducible repeat (first | refine blk_drewN ?_ _ | refine blk_drew ?_ | refine blk_alloc ?_ _)); refine blk_far ?_ NB347_358.out _; (with_reducible repeat (first | refine blk_drewN ?_ _ | refine blk_drew ?_ | refine blk_alloc ?_ _)); refine blk_far ?_ NB347_358.out _; (with_reducible repeat (first | refine blk_drewN ?_ _ | refine blk_drew ?_ | refine blk_alloc ?_ _)); exact BK347.out⟩
   have n3_ : Aside0 (((w59.setCell ⟨gb358, 0, none⟩ (.slice Ao60 t351.length co60)).setCell ⟨gb358, 1, none⟩ (.slice Ao64 t354.length co64)).heap[gb358]? = some (.cells #[.slice Ao60 t351.length co60, .slice Ao64 t354.length co64] 26 (0, 0))) := ⟨by (with_reducible repeat (first | refine blk_drewN ?_ _ | refine blk_drew ?_ | refine blk_alloc ?_ _)); refine blk_put (cs := #[.slice Ao60 t351.length co60, .slice none 0 0]) ?_ 1 _ rfl; (with_reducible repeat (first | refine blk_drewN ?_ _ | refine blk_drew ?_ | refine blk_alloc ?_ _)); refine blk_put (cs := #[.slice none 0 0, .slice none 0 0]) ?_ 0 _ rfl; (with_reducible repeat (first | refine blk_drewN ?_ _ | refine blk_drew ?_ | refine blk_alloc ?_ _)); exact BK358.out⟩
   have n4_ : Aside0 (IsS66 w ((w59.setCell ⟨gb358, 0, none⟩ (.slice Ao60 t351.length co60)).setCell ⟨gb358, 1, none⟩ (.slice Ao64 t354.length co64)) g350 t348 t357) := ⟨is66_⟩
   have n5_ : Aside0 (Below w.heap.size w ((w59.setCell ⟨gb358, 0, none⟩ (.slice Ao60 t351.length co60)).setCell ⟨gb358, 1, none⟩ (.slice Ao64 t354.length co64))) := ⟨bs_⟩
   (try clear HO353)
   (try clear HO356)
   (try clear BK347)
   (try clear BK358)
   (try clear HI350)
   (try clear HB)
   generalize ((w59.setCell ⟨gb358, 0, none⟩ (.slice Ao60 t351.length co60)).setCell ⟨gb358, 1, none⟩ (.slice Ao64 t354.length co64)) = w65 at n0_ n1_ n2_ n3_ n4_ n5_ ⊢
   have HO353 := n0_
   have HO356 := n1_
   have BK347 := n2_
   have BK358 := n3_
   have HI350 := n4_
   have HB := n5_
   clear n0_ n1_ n2_ n3_ n4_ n5_
   replace HO353 := Aside0.mk (Kd.R_drew HO353.out)
   replace HO356 := Aside0.mk (Kd.R_drew HO356.out)
   replace BK347 := Aside0.mk (blk_drew BK347.out)
   replace BK358 := Aside0.mk (blk_drew BK358.out)
   replace HI350 := Aside0.mk (IsS66.drew HI350.out)
   replace HB := Aside0.mk (below_drew1 HB.out)
   refine start_ (n := 8) (S := fun w' => w'.cell? ⟨gb358, 0, none⟩ = some (.slice Ao60 t351.length co60) ∧ w'.cell? ⟨gb358, 1, none⟩ = some (.slice Ao64 t354.length co64)) (ds := []) (bm 8 0) (by kernel_rfl) rfl rfl ⟨(blk_cell BK358.out 0).trans rfl, (blk_cell BK358.out 1).trans rfl⟩ (fun hHeld => ?_); refine with_tabW spec_DrawPartsOf.tab3 spec_DrawPartsOf.bits3 (fun HT_ HW_ => ?_)
   generalize w65.drew = w66 at HO353 HO356 BK347 BK358 HI350 HB hHeld ⊢
   refine sp_ 0 (some 11) (bm 8 1) HT_ (h := ?_)
   refine sp_ 3 (some 14) (bm 8 9) HT_ (h := ?_)
   refine sr_ 1 (some 12) (bm 8 11) HT_ HW_ hHeld (h := ?_)
   refine sr_ 4 (some 15) (bm 8 27) HT_ HW_ hHeld (h := ?_)
   refine sn_ 2 (some 13) (bm 8 31) HT_ (fun K hK => ?_)
   refine goes_ Try.func19 (by kernel_rfl) rfl #[.pointer (some ⟨g350, 0, none⟩), .agg #[.slice Ao60 t351.length co60, .slice Ao64 t354.length co64]] (by rfl) rfl rfl (by (try simp only [List.map_toArray, List.map_cons, List.map_nil]); first | done | rfl | (simp only [List.length_drop, List.length_take]; rfl)) ?_
   with_reducible refine (spec_l13Of.calls k g350 t348 t357 _ _ t351 _ _ t354 t359 t360 w _ ?side1 ?side2 ?side3 ?side4 ?side5 ?side6 A4.out).mono ?_
   (case side1 => exact is66_)
   (case side2 => exact bs_)
   (case side3 => exact Kd.C_foot_own (IsS66.apart (show IsS66 w _ g350 t348 t357 from is66_) (kR_ HO353) (by decide)) (fun _ h_ => h_.2))
   (case side4 => exact (Kd.R_reads' HO353.out).2.1)
   (case side5 => exact Kd.C_foot_own (IsS66.apart (show IsS66 w _ g350 t348 t357 from is66_) (kR_ HO356) (by decide)) (fun _ h_ => h_.2))
   (case side6 => exact (Kd.R_reads' HO356.out).2.1)
   rintro e w67 ⟨rfl, hi, hb, hk⟩
   refine ⟨_, rfl, ?_⟩
   replace BK347 := Aside0.mk (KeepBut.blk hk (g' := gb347) (o := .cells #[.slice none 0 0, .slice none 0 0] 26 (0, 0)) (bk_ BK347) NB347_350.out (by simp))
   replace HO353 := Aside0.mk (kaR66_ (kR_ HO353) hk)
   replace HO356 := Aside0.mk (kaR66_ (kR_ HO356) hk)
   replace BK358 := Aside0.mk (KeepBut.blk hk (g' := gb358) (o := .cells #[.slice Ao60 t351.length co60, .slice Ao64 t354.length co64] 26 (0, 0)) (bk_ BK358) NB358_350.out (by simp))
   replace HB := Aside0.mk (hb)
   replace HI350 := Aside0.mk (hi)
   (try clear hb)
   (try clear hb2)
   (try clear hk)
   (try clear hi)
   refine hK.out _ _ ⟨(blk_cell BK358.out 0).trans rfl, (blk_cell BK358.out 1).trans rfl⟩ (fun hHeld => ?_)
   clear hK K
   refine nm_ ?_
   refine sn_ 5 (some 16) (bm 8 63) HT_ (fun K hK => ?_)
   refine goes_ Try.func19 (by kernel_rfl) rfl #[.pointer (some ⟨g350, 0, none⟩), .agg #[.slice Ao60 t351.length co60, .slice Ao64 t354.length co64]] (by rfl) rfl rfl (by (try simp only [List.map_toArray, List.map_cons, List.map_nil]); first | done | rfl | (simp only [List.length_drop, List.length_take]; rfl)) ?_
   with_reducible refine (spec_l13Of.calls k g350 t348 t360 _ _ t351 _ _ t354 t361 t362 w _ ?side1 ?side2 ?side3 ?side4 ?side5 ?side6 A5.out).mono ?_
   (case side1 => exact is66_)
   (case side2 => exact bs_)
   (case side3 => exact Kd.C_foot_own (IsS66.apart (show IsS66 w _ g350 t348 t360 from is66_) (kR_ HO353) (by decide)) (fun _ h_ => h_.2))
   (case side4 => exact (Kd.R_reads' HO353.out).2.1)
   (case side5 => exact Kd.C_foot_own (IsS66.apart (show IsS66 w _ g350 t348 t360 from is66_) (kR_ HO356) (by decide)) (fun _ h_ => h_.2))
   (case side6 => exact (Kd.R_reads' HO356.out).2.1)
   rintro e w68 ⟨rfl, hi, hb, hk⟩
   refine ⟨_, rfl, ?_⟩
   replace BK347 := Aside0.mk (KeepBut.blk hk (g' := gb347) (o := .cells #[.slice none 0 0, .slice none 0 0] 26 (0, 0)) (bk_ BK347) NB347_350.out (by simp))
   replace HO353 := Aside0.mk (kaR66_ (kR_ HO353) hk)
   replace HO356 := Aside0.mk (kaR66_ (kR_ HO356) hk)
   replace BK358 := Aside0.mk (KeepBut.blk hk (g' := gb358) (o := .cells #[.slice Ao60 t351.length co60, .slice Ao64 t354.length co64] 26 (0, 0)) (bk_ BK358) NB358_350.out (by simp))
   replace HB := Aside0.mk (hb)
   replace HI350 := Aside0.mk (hi)
   (try clear hb)
   (try clear hb2)
   (try clear hk)
   (try clear hi)
   refine hK.out _ _ ⟨(blk_cell BK358.out 0).trans rfl, (blk_cell BK358.out 1).trans rfl⟩ (fun hHeld => ?_)
   clear hK K
   refine nm_ ?_
   refine sp_ 6 (some 17) (bm 8 127) HT_ (h := ?_)
   refine sp_ 7 (some 6) (bm 8 255) HT_ (h := ?_)
   refine done_ (done_of HT_.out (by kernel_rfl)) ?_
   try go_wp2_with (first | ((with_reducible refine gate_callee (f := 20) rfl ?_); refine gl_ 19 Try.func20 #[.pointer (some ⟨g350, 0, none⟩), .int .i64 3] ?_; (with_reducible refine (spec_l1Rd_pick.calls k g350 t348 t362 3 t363 t364 w _ ?side1 ?side2 A7.out).mono ?_); (case side1 => exact is66_); (case side2 => exact bs_); rintro e w69 ⟨rfl, hi, hb, hk⟩; refine ⟨_, rfl, ?_⟩; replace BK347 := Aside0.mk (KeepBut.blk hk (g' := gb347) (o := .cells #[.slice none 0 0, .slice none 0 0] 26 (0, 0)) (bk_ BK347) NB347_350.out (by simp)); replace HO353 := Aside0.mk (kaR66_ (kR_ HO353) hk); replace HO356 := Aside0.mk (kaR66_ (kR_ HO356) hk); replace BK358 := Aside0.mk (KeepBut.blk hk (g' := gb358) (o := .cells #[.slice Ao60 t351.length co60, .slice Ao64 t354.length co64] 26 (0, 0)) (bk_ BK358) NB358_350.out (by simp)); replace HB := Aside0.mk (hb); replace HI350 := Aside0.mk (hi); (try clear hb); (try clear hb2); (try clear hk); (try clear hi); have hcz70_0 := bc0_ BK358; have hcz70_1 := bc1_ BK358; have hfz70_0 := blk_frozen BK358.out 0; have hfz70_1 := blk_frozen BK358.out 1) | ((with_reducible refine gate_callee (f := 19) rfl ?_); refine gl_ 24 Try.func19 #[.pointer (some ⟨g350, 0, none⟩), .agg #[.slice Ao60 t351.length co60, .slice Ao64 t354.length co64]] ?_; (with_reducible refine (spec_l13Of.calls k g350 t348 t364 _ _ t351 _ _ t354 t365 t366 w _ ?side1 ?side2 ?side3 ?side4 ?side5 ?side6 A9.out).mono ?_); (case side1 => exact is66_); (case side2 => exact bs_); (case side3 => exact Kd.C_foot_own (IsS66.apart (show IsS66 w _ g350 t348 t364 from is66_) (kR_ HO353) (by decide)) (fun _ h_ => h_.2)); (case side4 => exact (Kd.R_reads' HO353.out).2.1); (case side5 => exact Kd.C_foot_own (IsS66.apart (show IsS66 w _ g350 t348 t364 from is66_) (kR_ HO356) (by decide)) (fun _ h_ => h_.2)); (case side6 => exact (Kd.R_reads' HO356.out).2.1); rintro e w71 ⟨rfl, hi, hb, hk⟩; refine ⟨_, rfl, ?_⟩; replace BK347 := Aside0.mk (KeepBut.blk hk (g' := gb347) (o := .cells #[.slice none 0 0, .slice none 0 0] 26 (0, 0)) (bk_ BK347) NB347_350.out (by simp)); replace HO353 := Aside0.mk (kaR66_ (kR_ HO353) hk); replace HO356 := Aside0.mk (kaR66_ (kR_ HO356) hk); replace BK358 := Aside0.mk (KeepBut.blk hk (g' := gb358) (o := .cells #[.slice Ao60 t351.length co60, .slice Ao64 t354.length co64] 26 (0, 0)) (bk_ BK358) NB358_350.out (by simp)); replace HB := Aside0.mk (hb); replace HI350 := Aside0.mk (hi); (try clear hb); (try clear hb2); (try clear hk); (try clear hi); have hcz72_0 := bc0_ BK358; have hcz72_1 := bc1_ BK358; have hfz72_0 := blk_frozen BK358.out 0; have hfz72_1 := blk_frozen BK358.out 1; have hnb73 := NB347_350.out; have hnc73 := NB350_347.out; have hcz74_0 := bc0_ BK347; have hcz74_1 := bc1_ BK347; have hfz74_0 := blk_frozen BK347.out 0; have hfz74_1 := blk_frozen BK347.out 1))
   refine bodyPost_ret (results_ct rfl _ _ gb347 26 #[.slice Ao60 t351.length co60, .slice Ao64 t354.length co64] (0, 0) _ rfl bq_ Try.underlying26 rfl (by kernel_rfl)) rfl ?_
   exact ⟨_, _, rfe_, by (with_reducible repeat (first | apply Kd.R_alloc | apply Kd.R_drewN | apply Kd.R_drew)); exact Kd.R_mono (Kd.R_far (p := ⟨gb347, 1, none⟩) (Kd.R_far (p := ⟨gb347, 0, none⟩) (Kd.R_types HO353.out BK347.out (by decide)) (fun _ hk => hk.2) (.slice Ao60 t351.length co60)) (fun _ hk => hk.2) (.slice Ao64 t354.length co64)) (fun _ hk => trivial), by (with_reducible repeat (first | apply Kd.R_alloc | apply Kd.R_drewN | apply Kd.R_drew)); exact Kd.R_mono (Kd.R_far (p := ⟨gb347, 1, none⟩) (Kd.R_far (p := ⟨gb347, 0, none⟩) (Kd.R_types HO356.out BK347.out (by decide)) (fun _ hk => hk.2) (.slice Ao60 t351.length co60)) (fun _ hk => hk.2) (.slice Ao64 t354.length co64)) (fun _ hk => trivial), bs_⟩
 have c11b0 : decide (12 < (((t359 ++ t361) ++ t365).size : Int)) = true := decide_eq_true c11
 try (have c11b0s := c11b0; simp only [ByteArray.size_append, Int.natCast_add] at c11b0s)
 have c11b1 : decide (12 < ((t359 ++ t361) ++ t365).size) = true := decide_eq_true (by omega)
 try (have c11b1s := c11b1; simp only [ByteArray.size_append, Int.natCast_add] at c11b1s)
 clear c11
 replace H := Option.bind_eq_some_iff.mp H
 obtain ⟨⟨t367, t368⟩, A120, H⟩ := H; try dsimp only at H
 have A12 := Aside0.mk A120
 clear A120
 replace H := iucc_ H; rcases H with ⟨c13, H⟩ | ⟨c13, H⟩
 · have c13b0 : decide (0 < t367) = false := decide_eq_false c13
   clear c13
   simp only [Option.some.injEq, Prod.mk.injEq] at H
   obtain ⟨rfl, rfl, rfl⟩ := H
   go_enter Try.func5, Try.ntmps5
   try go_wp2_with (first | ((with_reducible refine gate_dst (N := 2) rfl ?_); refine be_ 2 26 #[.slice none 0 0, .slice none 0 0] ?_; intro gb347 hg w36 hbox hb; have BK347 := Aside0.mk (hbox); have GW347 := Aside0.mk ((gs_ hg : w.heap.size ≤ gb347)); have GE347 := Aside0.mk ((gs_ hg : w.heap.size ≤ gb347)); replace HB := Aside0.mk (below_step (bl_) hb); clear hb hbox hg) | ((with_reducible refine gate_callee (f := 17) rfl ?_); refine gl_ 8 Try.func17 #[.slice A0 l0.length c0] ?_; (with_reducible refine (spec_l1Open.calls _ _ l0 t348 t349 w _ ?side1 ?side2 ?side3 A2.out).mono ?_); (case side1 => exact bs_); (case side2 => exact HR0.out); (case side3 => exact HC0.out); rintro e w37 ⟨g350, rfl, hi, hb, hb2⟩; refine ⟨_, rfl, ?_⟩; replace HB := Aside0.mk (hb); have HI350 := Aside0.mk (hi); have NB350_347 := Aside0.mk (IsS66.ne_blk hi (blk_below (bk_ BK347) hb2) (by decide)); have NB347_350 := Aside0.mk (Ne.symm (IsS66.ne_blk hi (blk_below (bk_ BK347) hb2) (by decide))); replace BK347 := Aside0.mk (blk_below (bk_ BK347) hb2); (try clear hb); (try clear hb2); (try clear hk); (try clear hi)) | ((with_reducible refine gate_callee (f := 18) rfl ?_); refine gl_ 10 Try.func18 #[.pointer (some ⟨g350, 0, none⟩)] ?_; (with_reducible refine (spec_l13AnyBook.calls k g350 t348 t349 t351 t354 t357 w _ ?side1 ?side2 A3.out).mono ?_); (case side1 => exact is66_); (case side2 => exact bs_); rintro e w38 ⟨v352, v355, rfl, ho0, ho1, hi, hb, hk⟩; refine ⟨_, rfl, ?_⟩; replace BK347 := Aside0.mk (KeepBut.blk hk (g' := gb347) (o := .cells #[.slice none 0 0, .slice none 0 0] 26 (0, 0)) (bk_ BK347) NB347_350.out (by simp)); have HO353 := Aside0.mk (Kd.R_lower ho0 (below_size bs_)); have HO356 := Aside0.mk (Kd.R_lower ho1 (below_size bs_)); replace HB := Aside0.mk (hb); replace HI350 := Aside0.mk (hi); (try clear hb); (try clear hb2); (try clear hk); (try clear hi); (try clear ho0); (try clear ho1)) | ((with_reducible refine gate_dst (N := 5) rfl ?_); refine be_ 5 26 #[.slice none 0 0, .slice none 0 0] ?_; intro gb358 hg w39 hbox hb; replace HO353 := Aside0.mk (Kd.R_below (kR_ HO353) hb); replace HO356 := Aside0.mk (Kd.R_below (kR_ HO356) hb); have BK358 := Aside0.mk (hbox); have GW358 := Aside0.mk ((by rw [hg]; exact (below_size bs_) : w.heap.size ≤ gb358)); have GE358 := Aside0.mk ((by rw [hg]; exact (below_size bs_) : w.heap.size ≤ gb358)); replace HB := Aside0.mk (below_step bs_ hb); have NB347_358 := Aside0.mk ((by rw [hg]; exact Nat.ne_of_lt (blk_lt (bk_ BK347)) : gb347 ≠ gb358)); have NB358_347 := Aside0.mk ((by rw [hg]; exact Nat.ne_of_gt (blk_lt (bk_ BK347)) : gb358 ≠ gb347)); replace BK347 := Aside0.mk (blk_below (bk_ BK347) hb); have NB350_358 := Aside0.mk ((by rw [hg]; exact Nat.ne_of_lt (IsS66.lt (show IsS66 w _ g350 t348 t357 from is66_)) : g350 ≠ gb358)); have NB358_350 := Aside0.mk ((by rw [hg]; exact Nat.ne_of_gt (IsS66.lt (show IsS66 w _ g350 t348 t357 from is66_)) : gb358 ≠ g350)); replace HI350 := Aside0.mk (IsS66.below is66_ hb); clear hb hbox hg; obtain ⟨Ao40, co40, eo40⟩ := Kd.R_slice HO353.out; subst eo40; have hnb41 := NB358_347.out; have hnc41 := NB347_358.out; have hnb42 := NB358_350.out; have hnc42 := NB350_358.out; have hcz43_0 := bc0_ BK358; have hcz43_1 := bc1_ BK358; have hfz43_0 := blk_frozen BK358.out 0; have hfz43_1 := blk_frozen BK358.out 1; obtain ⟨Ao44, co44, eo44⟩ := Kd.R_slice HO356.out; subst eo44))
   have n0_ : Aside0 (Kd.R k68 68 ((w39.setCell ⟨gb358, 0, none⟩ (.slice Ao40 t351.length co40)).setCell ⟨gb358, 1, none⟩ (.slice Ao44 t354.length co44)) w.heap.size (fun _ => True) (.slice Ao40 t351.length co40) t351) := ⟨by (with_reducible repeat (first | apply Kd.R_alloc | apply Kd.R_drewN | apply Kd.R_drew)); exact Kd.R_mono (Kd.R_far (p := ⟨gb358, 1, none⟩) (Kd.R_far (p := ⟨gb358, 0, none⟩) (Kd.R_types HO353.out BK358.out (by decide)) (fun _ hk => hk.2) (.slice Ao40 t351.length co40)) (fun _ hk => hk.2) (.slice Ao44 t354.length co44)) (fun _ hk => trivial)⟩
   have n1_ : Aside0 (Kd.R k73 73 ((w39.setCell ⟨gb358, 0, none⟩ (.slice Ao40 t351.length co40)).setCell ⟨gb358, 1, none⟩ (.slice Ao44 t354.length co44)) w.heap.size (fun _ => True) (.slice Ao44 t354.length co44) t354) := ⟨by (with_reducible repeat (first | apply Kd.R_alloc | apply Kd.R_drewN | apply Kd.R_drew)); exact Kd.R_mono (Kd.R_far (p := ⟨gb358, 1, none⟩) (Kd.R_far (p := ⟨gb358, 0, none⟩) (Kd.R_types HO356.out BK358.out (by decide)) (fun _ hk => hk.2) (.slice Ao40 t351.length co40)) (fun _ hk => hk.2) (.slice Ao44 t354.length co44)) (fun _ hk => trivial)⟩
   have n2_ : Aside0 (((w39.setCell ⟨gb358, 0, none⟩ (.slice Ao40 t351.length co40)).setCell ⟨gb358, 1, none⟩ (.slice Ao44 t354.length co44)).heap[gb347]? = some (.cells #[.slice none 0 0, .slice none 0 0] 26 (0, 0))) := ⟨by (with_reducible repeat (first | refine blk_drewN ?_ _ | refine blk_drew ?_ | refine blk_alloc ?_ _)); refine blk_far ?_ NB347_358.out _; (with_reducible repeat (first | refine blk_drewN ?_ _ | refine blk_drew ?_ | refine blk_alloc ?_ _)); refine blk_far ?_ NB347_358.out _; (with_reducible repeat (first | refine blk_drewN ?_ _ | refine blk_drew ?_ | refine blk_alloc ?_ _)); exact BK347.out⟩
   have n3_ : Aside0 (((w39.setCell ⟨gb358, 0, none⟩ (.slice Ao40 t351.length co40)).setCell ⟨gb358, 1, none⟩ (.slice Ao44 t354.length co44)).heap[gb358]? = some (.cells #[.slice Ao40 t351.length co40, .slice Ao44 t354.length co44] 26 (0, 0))) := ⟨by (with_reducible repeat (first | refine blk_drewN ?_ _ | refine blk_drew ?_ | refine blk_alloc ?_ _)); refine blk_put (cs := #[.slice Ao40 t351.length co40, .slice none 0 0]) ?_ 1 _ rfl; (with_reducible repeat (first | refine blk_drewN ?_ _ | refine blk_drew ?_ | refine blk_alloc ?_ _)); refine blk_put (cs := #[.slice none 0 0, .slice none 0 0]) ?_ 0 _ rfl; (with_reducible repeat (first | refine blk_drewN ?_ _ | refine blk_drew ?_ | refine blk_alloc ?_ _)); exact BK358.out⟩
   have n4_ : Aside0 (IsS66 w ((w39.setCell ⟨gb358, 0, none⟩ (.slice Ao40 t351.length co40)).setCell ⟨gb358, 1, none⟩ (.slice Ao44 t354.length co44)) g350 t348 t357) := ⟨is66_⟩
   have n5_ : Aside0 (Below w.heap.size w ((w39.setCell ⟨gb358, 0, none⟩ (.slice Ao40 t351.length co40)).setCell ⟨gb358, 1, none⟩ (.slice Ao44 t354.length co44))) := ⟨bs_⟩
   (try clear HO353)
   (try clear HO356)
   (try clear BK347)
   (try clear BK358)
   (try clear HI350)
   (try clear HB)
   generalize ((w39.setCell ⟨gb358, 0, none⟩ (.slice Ao40 t351.length co40)).setCell ⟨gb358, 1, none⟩ (.slice Ao44 t354.length co44)) = w45 at n0_ n1_ n2_ n3_ n4_ n5_ ⊢
   have HO353 := n0_
   have HO356 := n1_
   have BK347 := n2_
   have BK358 := n3_
   have HI350 := n4_
   have HB := n5_
   clear n0_ n1_ n2_ n3_ n4_ n5_
   replace HO353 := Aside0.mk (Kd.R_drew HO353.out)
   replace HO356 := Aside0.mk (Kd.R_drew HO356.out)
   replace BK347 := Aside0.mk (blk_drew BK347.out)
   replace BK358 := Aside0.mk (blk_drew BK358.out)
   replace HI350 := Aside0.mk (IsS66.drew HI350.out)
   replace HB := Aside0.mk (below_drew1 HB.out)
   refine start_ (n := 8) (S := fun w' => w'.cell? ⟨gb358, 0, none⟩ = some (.slice Ao40 t351.length co40) ∧ w'.cell? ⟨gb358, 1, none⟩ = some (.slice Ao44 t354.length co44)) (ds := []) (bm 8 0) (by kernel_rfl) rfl rfl ⟨(blk_cell BK358.out 0).trans rfl, (blk_cell BK358.out 1).trans rfl⟩ (fun hHeld => ?_); refine with_tabW spec_DrawPartsOf.tab3 spec_DrawPartsOf.bits3 (fun HT_ HW_ => ?_)
   generalize w45.drew = w46 at HO353 HO356 BK347 BK358 HI350 HB hHeld ⊢
   refine sp_ 0 (some 11) (bm 8 1) HT_ (h := ?_)
   refine sp_ 3 (some 14) (bm 8 9) HT_ (h := ?_)
   refine sr_ 1 (some 12) (bm 8 11) HT_ HW_ hHeld (h := ?_)
   refine sr_ 4 (some 15) (bm 8 27) HT_ HW_ hHeld (h := ?_)
   refine sn_ 2 (some 13) (bm 8 31) HT_ (fun K hK => ?_)
   refine goes_ Try.func19 (by kernel_rfl) rfl #[.pointer (some ⟨g350, 0, none⟩), .agg #[.slice Ao40 t351.length co40, .slice Ao44 t354.length co44]] (by rfl) rfl rfl (by (try simp only [List.map_toArray, List.map_cons, List.map_nil]); first | done | rfl | (simp only [List.length_drop, List.length_take]; rfl)) ?_
   with_reducible refine (spec_l13Of.calls k g350 t348 t357 _ _ t351 _ _ t354 t359 t360 w _ ?side1 ?side2 ?side3 ?side4 ?side5 ?side6 A4.out).mono ?_
   (case side1 => exact is66_)
   (case side2 => exact bs_)
   (case side3 => exact Kd.C_foot_own (IsS66.apart (show IsS66 w _ g350 t348 t357 from is66_) (kR_ HO353) (by decide)) (fun _ h_ => h_.2))
   (case side4 => exact (Kd.R_reads' HO353.out).2.1)
   (case side5 => exact Kd.C_foot_own (IsS66.apart (show IsS66 w _ g350 t348 t357 from is66_) (kR_ HO356) (by decide)) (fun _ h_ => h_.2))
   (case side6 => exact (Kd.R_reads' HO356.out).2.1)
   rintro e w47 ⟨rfl, hi, hb, hk⟩
   refine ⟨_, rfl, ?_⟩
   replace BK347 := Aside0.mk (KeepBut.blk hk (g' := gb347) (o := .cells #[.slice none 0 0, .slice none 0 0] 26 (0, 0)) (bk_ BK347) NB347_350.out (by simp))
   replace HO353 := Aside0.mk (kaR66_ (kR_ HO353) hk)
   replace HO356 := Aside0.mk (kaR66_ (kR_ HO356) hk)
   replace BK358 := Aside0.mk (KeepBut.blk hk (g' := gb358) (o := .cells #[.slice Ao40 t351.length co40, .slice Ao44 t354.length co44] 26 (0, 0)) (bk_ BK358) NB358_350.out (by simp))
   replace HB := Aside0.mk (hb)
   replace HI350 := Aside0.mk (hi)
   (try clear hb)
   (try clear hb2)
   (try clear hk)
   (try clear hi)
   refine hK.out _ _ ⟨(blk_cell BK358.out 0).trans rfl, (blk_cell BK358.out 1).trans rfl⟩ (fun hHeld => ?_)
   clear hK K
   refine nm_ ?_
   refine sn_ 5 (some 16) (bm 8 63) HT_ (fun K hK => ?_)
   refine goes_ Try.func19 (by kernel_rfl) rfl #[.pointer (some ⟨g350, 0, none⟩), .agg #[.slice Ao40 t351.length co40, .slice Ao44 t354.length co44]] (by rfl) rfl rfl (by (try simp only [List.map_toArray, List.map_cons, List.map_nil]); first | done | rfl | (simp only [List.length_drop, List.length_take]; rfl)) ?_
   with_reducible refine (spec_l13Of.calls k g350 t348 t360 _ _ t351 _ _ t354 t361 t362 w _ ?side1 ?side2 ?side3 ?side4 ?side5 ?side6 A5.out).mono ?_
   (case side1 => exact is66_)
   (case side2 => exact bs_)
   (case side3 => exact Kd.C_foot_own (IsS66.apart (show IsS66 w _ g350 t348 t360 from is66_) (kR_ HO353) (by decide)) (fun _ h_ => h_.2))
   (case side4 => exact (Kd.R_reads' HO353.out).2.1)
   (case side5 => exact Kd.C_foot_own (IsS66.apart (show IsS66 w _ g350 t348 t360 from is66_) (kR_ HO356) (by decide)) (fun _ h_ => h_.2))
   (case side6 => exact (Kd.R_reads' HO356.out).2.1)
   rintro e w48 ⟨rfl, hi, hb, hk⟩
   refine ⟨_, rfl, ?_⟩
   replace BK347 := Aside0.mk (KeepBut.blk hk (g' := gb347) (o := .cells #[.slice none 0 0, .slice none 0 0] 26 (0, 0)) (bk_ BK347) NB347_350.out (by simp))
   replace HO353 := Aside0.mk (kaR66_ (kR_ HO353) hk)
   replace HO356 := Aside0.mk (kaR66_ (kR_ HO356) hk)
   replace BK358 := Aside0.mk (KeepBut.blk hk (g' := gb358) (o := .cells #[.slice Ao40 t351.length co40, .slice Ao44 t354.length co44] 26 (0, 0)) (bk_ BK358) NB358_350.out (by simp))
   replace HB := Aside0.mk (hb)
   replace HI350 := Aside0.mk (hi)
   (try clear hb)
   (try clear hb2)
   (try clear hk)
   (try clear hi)
   refine hK.out _ _ ⟨(blk_cell BK358.out 0).trans rfl, (blk_cell BK358.out 1).trans rfl⟩ (fun hHeld => ?_)
   clear hK K
   refine nm_ ?_
   refine sp_ 6 (some 17) (bm 8 127) HT_ (h := ?_)
   refine sp_ 7 (some 6) (bm 8 255) HT_ (h := ?_)
   refine done_ (done_of HT_.out (by kernel_rfl)) ?_
   try go_wp2_with (first | ((with_reducible refine gate_callee (f := 20) rfl ?_); refine gl_ 19 Try.func20 #[.pointer (some ⟨g350, 0, none⟩), .int .i64 3] ?_; (with_reducible refine (spec_l1Rd_pick.calls k g350 t348 t362 3 t363 t364 w _ ?side1 ?side2 A7.out).mono ?_); (case side1 => exact is66_); (case side2 => exact bs_); rintro e w49 ⟨rfl, hi, hb, hk⟩; refine ⟨_, rfl, ?_⟩; replace BK347 := Aside0.mk (KeepBut.blk hk (g' := gb347) (o := .cells #[.slice none 0 0, .slice none 0 0] 26 (0, 0)) (bk_ BK347) NB347_350.out (by simp)); replace HO353 := Aside0.mk (kaR66_ (kR_ HO353) hk); replace HO356 := Aside0.mk (kaR66_ (kR_ HO356) hk); replace BK358 := Aside0.mk (KeepBut.blk hk (g' := gb358) (o := .cells #[.slice Ao40 t351.length co40, .slice Ao44 t354.length co44] 26 (0, 0)) (bk_ BK358) NB358_350.out (by simp)); replace HB := Aside0.mk (hb); replace HI350 := Aside0.mk (hi); (try clear hb); (try clear hb2); (try clear hk); (try clear hi); have hcz50_0 := bc0_ BK358; have hcz50_1 := bc1_ BK358; have hfz50_0 := blk_frozen BK358.out 0; have hfz50_1 := blk_frozen BK358.out 1) | ((with_reducible refine gate_callee (f := 19) rfl ?_); refine gl_ 24 Try.func19 #[.pointer (some ⟨g350, 0, none⟩), .agg #[.slice Ao40 t351.length co40, .slice Ao44 t354.length co44]] ?_; (with_reducible refine (spec_l13Of.calls k g350 t348 t364 _ _ t351 _ _ t354 t365 t366 w _ ?side1 ?side2 ?side3 ?side4 ?side5 ?side6 A9.out).mono ?_); (case side1 => exact is66_); (case side2 => exact bs_); (case side3 => exact Kd.C_foot_own (IsS66.apart (show IsS66 w _ g350 t348 t364 from is66_) (kR_ HO353) (by decide)) (fun _ h_ => h_.2)); (case side4 => exact (Kd.R_reads' HO353.out).2.1); (case side5 => exact Kd.C_foot_own (IsS66.apart (show IsS66 w _ g350 t348 t364 from is66_) (kR_ HO356) (by decide)) (fun _ h_ => h_.2)); (case side6 => exact (Kd.R_reads' HO356.out).2.1); rintro e w51 ⟨rfl, hi, hb, hk⟩; refine ⟨_, rfl, ?_⟩; replace BK347 := Aside0.mk (KeepBut.blk hk (g' := gb347) (o := .cells #[.slice none 0 0, .slice none 0 0] 26 (0, 0)) (bk_ BK347) NB347_350.out (by simp)); replace HO353 := Aside0.mk (kaR66_ (kR_ HO353) hk); replace HO356 := Aside0.mk (kaR66_ (kR_ HO356) hk); replace BK358 := Aside0.mk (KeepBut.blk hk (g' := gb358) (o := .cells #[.slice Ao40 t351.length co40, .slice Ao44 t354.length co44] 26 (0, 0)) (bk_ BK358) NB358_350.out (by simp)); replace HB := Aside0.mk (hb); replace HI350 := Aside0.mk (hi); (try clear hb); (try clear hb2); (try clear hk); (try clear hi)) | (go_at_call 20; (with_reducible refine (spec_l1Rd_pick.calls k g350 t348 t366 4 t367 t368 w _ ?side1 ?side2 A12.out).mono ?_); (case side1 => exact is66_); (case side2 => exact bs_); rintro e w52 ⟨rfl, hi, hb, hk⟩; replace BK347 := Aside0.mk (KeepBut.blk hk (g' := gb347) (o := .cells #[.slice none 0 0, .slice none 0 0] 26 (0, 0)) (bk_ BK347) NB347_350.out (by simp)); replace HO353 := Aside0.mk (kaR66_ (kR_ HO353) hk); replace HO356 := Aside0.mk (kaR66_ (kR_ HO356) hk); replace BK358 := Aside0.mk (KeepBut.blk hk (g' := gb358) (o := .cells #[.slice Ao40 t351.length co40, .slice Ao44 t354.length co44] 26 (0, 0)) (bk_ BK358) NB358_350.out (by simp)); replace HB := Aside0.mk (hb); replace HI350 := Aside0.mk (hi); (try clear hb); (try clear hb2); (try clear hk); (try clear hi); have hcz53_0 := bc0_ BK358; have hcz53_1 := bc1_ BK358; have hfz53_0 := blk_frozen BK358.out 0; have hfz53_1 := blk_frozen BK358.out 1; have hnb54 := NB347_350.out; have hnc54 := NB350_347.out; have hcz55_0 := bc0_ BK347; have hcz55_1 := bc1_ BK347; have hfz55_0 := blk_frozen BK347.out 0; have hfz55_1 := blk_frozen BK347.out 1))
   refine bodyPost_ret (results_ct rfl _ _ gb347 26 #[.slice Ao40 t351.length co40, .slice Ao44 t354.length co44] (0, 0) _ rfl bq_ Try.underlying26 rfl (by kernel_rfl)) rfl ?_
   exact ⟨_, _, rfe_, by (with_reducible repeat (first | apply Kd.R_alloc | apply Kd.R_drewN | apply Kd.R_drew)); exact Kd.R_mono (Kd.R_far (p := ⟨gb347, 1, none⟩) (Kd.R_far (p := ⟨gb347, 0, none⟩) (Kd.R_types HO353.out BK347.out (by decide)) (fun _ hk => hk.2) (.slice Ao40 t351.length co40)) (fun _ hk => hk.2) (.slice Ao44 t354.length co44)) (fun _ hk => trivial), by (with_reducible repeat (first | apply Kd.R_alloc | apply Kd.R_drewN | apply Kd.R_drew)); exact Kd.R_mono (Kd.R_far (p := ⟨gb347, 1, none⟩) (Kd.R_far (p := ⟨gb347, 0, none⟩) (Kd.R_types HO356.out BK347.out (by decide)) (fun _ hk => hk.2) (.slice Ao40 t351.length co40)) (fun _ hk => hk.2) (.slice Ao44 t354.length co44)) (fun _ hk => trivial), bs_⟩
 have c13b0 : decide (0 < t367) = true := decide_eq_true c13
 clear c13
 replace H := inc_ H; obtain ⟨c14, H⟩ := H
 have c14b0 := eq_true c14
 have c14b1 : decide (0 ≤ 12) = true := decide_eq_true c14
 clear c14
 replace H := inc_ H; obtain ⟨c15, H⟩ := H
 have c15b0 := eq_true c15
 have c15b1 : decide (12 ≤ (((t359 ++ t361) ++ t365).size : Int)) = true := decide_eq_true c15
 try (have c15b1s := c15b1; simp only [ByteArray.size_append, Int.natCast_add] at c15b1s)
 simp only [Option.some.injEq, Prod.mk.injEq] at H
 obtain ⟨rfl, rfl, rfl⟩ := H
 go_enter Try.func5, Try.ntmps5
 try go_wp2_with (first | ((with_reducible refine gate_dst (N := 2) rfl ?_); refine be_ 2 26 #[.slice none 0 0, .slice none 0 0] ?_; intro gb347 hg w16 hbox hb; have BK347 := Aside0.mk (hbox); have GW347 := Aside0.mk ((gs_ hg : w.heap.size ≤ gb347)); have GE347 := Aside0.mk ((gs_ hg : w.heap.size ≤ gb347)); replace HB := Aside0.mk (below_step (bl_) hb); clear hb hbox hg) | ((with_reducible refine gate_callee (f := 17) rfl ?_); refine gl_ 8 Try.func17 #[.slice A0 l0.length c0] ?_; (with_reducible refine (spec_l1Open.calls _ _ l0 t348 t349 w _ ?side1 ?side2 ?side3 A2.out).mono ?_); (case side1 => exact bs_); (case side2 => exact HR0.out); (case side3 => exact HC0.out); rintro e w17 ⟨g350, rfl, hi, hb, hb2⟩; refine ⟨_, rfl, ?_⟩; replace HB := Aside0.mk (hb); have HI350 := Aside0.mk (hi); have NB350_347 := Aside0.mk (IsS66.ne_blk hi (blk_below (bk_ BK347) hb2) (by decide)); have NB347_350 := Aside0.mk (Ne.symm (IsS66.ne_blk hi (blk_below (bk_ BK347) hb2) (by decide))); replace BK347 := Aside0.mk (blk_below (bk_ BK347) hb2); (try clear hb); (try clear hb2); (try clear hk); (try clear hi)) | ((with_reducible refine gate_callee (f := 18) rfl ?_); refine gl_ 10 Try.func18 #[.pointer (some ⟨g350, 0, none⟩)] ?_; (with_reducible refine (spec_l13AnyBook.calls k g350 t348 t349 t351 t354 t357 w _ ?side1 ?side2 A3.out).mono ?_); (case side1 => exact is66_); (case side2 => exact bs_); rintro e w18 ⟨v352, v355, rfl, ho0, ho1, hi, hb, hk⟩; refine ⟨_, rfl, ?_⟩; replace BK347 := Aside0.mk (KeepBut.blk hk (g' := gb347) (o := .cells #[.slice none 0 0, .slice none 0 0] 26 (0, 0)) (bk_ BK347) NB347_350.out (by simp)); have HO353 := Aside0.mk (Kd.R_lower ho0 (below_size bs_)); have HO356 := Aside0.mk (Kd.R_lower ho1 (below_size bs_)); replace HB := Aside0.mk (hb); replace HI350 := Aside0.mk (hi); (try clear hb); (try clear hb2); (try clear hk); (try clear hi); (try clear ho0); (try clear ho1)) | ((with_reducible refine gate_dst (N := 5) rfl ?_); refine be_ 5 26 #[.slice none 0 0, .slice none 0 0] ?_; intro gb358 hg w19 hbox hb; replace HO353 := Aside0.mk (Kd.R_below (kR_ HO353) hb); replace HO356 := Aside0.mk (Kd.R_below (kR_ HO356) hb); have BK358 := Aside0.mk (hbox); have GW358 := Aside0.mk ((by rw [hg]; exact (below_size bs_) : w.heap.size ≤ gb358)); have GE358 := Aside0.mk ((by rw [hg]; exact (below_size bs_) : w.heap.size ≤ gb358)); replace HB := Aside0.mk (below_step bs_ hb); have NB347_358 := Aside0.mk ((by rw [hg]; exact Nat.ne_of_lt (blk_lt (bk_ BK347)) : gb347 ≠ gb358)); have NB358_347 := Aside0.mk ((by rw [hg]; exact Nat.ne_of_gt (blk_lt (bk_ BK347)) : gb358 ≠ gb347)); replace BK347 := Aside0.mk (blk_below (bk_ BK347) hb); have NB350_358 := Aside0.mk ((by rw [hg]; exact Nat.ne_of_lt (IsS66.lt (show IsS66 w _ g350 t348 t357 from is66_)) : g350 ≠ gb358)); have NB358_350 := Aside0.mk ((by rw [hg]; exact Nat.ne_of_gt (IsS66.lt (show IsS66 w _ g350 t348 t357 from is66_)) : gb358 ≠ g350)); replace HI350 := Aside0.mk (IsS66.below is66_ hb); clear hb hbox hg; obtain ⟨Ao20, co20, eo20⟩ := Kd.R_slice HO353.out; subst eo20; have hnb21 := NB358_347.out; have hnc21 := NB347_358.out; have hnb22 := NB358_350.out; have hnc22 := NB350_358.out; have hcz23_0 := bc0_ BK358; have hcz23_1 := bc1_ BK358; have hfz23_0 := blk_frozen BK358.out 0; have hfz23_1 := blk_frozen BK358.out 1; obtain ⟨Ao24, co24, eo24⟩ := Kd.R_slice HO356.out; subst eo24))
 have n0_ : Aside0 (Kd.R k68 68 ((w19.setCell ⟨gb358, 0, none⟩ (.slice Ao20 t351.length co20)).setCell ⟨gb358, 1, none⟩ (.slice Ao24 t354.length co24)) w.heap.size (fun _ => True) (.slice Ao20 t351.length co20) t351) := ⟨by (with_reducible repeat (first | apply Kd.R_alloc | apply Kd.R_drewN | apply Kd.R_drew)); exact Kd.R_mono (Kd.R_far (p := ⟨gb358, 1, none⟩) (Kd.R_far (p := ⟨gb358, 0, none⟩) (Kd.R_types HO353.out BK358.out (by decide)) (fun _ hk => hk.2) (.slice Ao20 t351.length co20)) (fun _ hk => hk.2) (.slice Ao24 t354.length co24)) (fun _ hk => trivial)⟩
 have n1_ : Aside0 (Kd.R k73 73 ((w19.setCell ⟨gb358, 0, none⟩ (.slice Ao20 t351.length co20)).setCell ⟨gb358, 1, none⟩ (.slice Ao24 t354.length co24)) w.heap.size (fun _ => True) (.slice Ao24 t354.length co24) t354) := ⟨by (with_reducible repeat (first | apply Kd.R_alloc | apply Kd.R_drewN | apply Kd.R_drew)); exact Kd.R_mono (Kd.R_far (p := ⟨gb358, 1, none⟩) (Kd.R_far (p := ⟨gb358, 0, none⟩) (Kd.R_types HO356.out BK358.out (by decide)) (fun _ hk => hk.2) (.slice Ao20 t351.length co20)) (fun _ hk => hk.2) (.slice Ao24 t354.length co24)) (fun _ hk => trivial)⟩
 have n2_ : Aside0 (((w19.setCell ⟨gb358, 0, none⟩ (.slice Ao20 t351.length co20)).setCell ⟨gb358, 1, none⟩ (.slice Ao24 t354.length co24)).heap[gb347]? = some (.cells #[.slice none 0 0, .slice none 0 0] 26 (0, 0))) := ⟨by (with_reducible repeat (first | refine blk_drewN ?_ _ | refine blk_drew ?_ | refine blk_alloc ?_ _)); refine blk_far ?_ NB347_358.out _; (with_reducible repeat (first | refine blk_drewN ?_ _ | refine blk_drew ?_ | refine blk_alloc ?_ _)); refine blk_far ?_ NB347_358.out _; (with_reducible repeat (first | refine blk_drewN ?_ _ | refine blk_drew ?_ | refine blk_alloc ?_ _)); exact BK347.out⟩
 have n3_ : Aside0 (((w19.setCell ⟨gb358, 0, none⟩ (.slice Ao20 t351.length co20)).setCell ⟨gb358, 1, none⟩ (.slice Ao24 t354.length co24)).heap[gb358]? = some (.cells #[.slice Ao20 t351.length co20, .slice Ao24 t354.length co24] 26 (0, 0))) := ⟨by (with_reducible repeat (first | refine blk_drewN ?_ _ | refine blk_drew ?_ | refine blk_alloc ?_ _)); refine blk_put (cs := #[.slice Ao20 t351.length co20, .slice none 0 0]) ?_ 1 _ rfl; (with_reducible repeat (first | refine blk_drewN ?_ _ | refine blk_drew ?_ | refine blk_alloc ?_ _)); refine blk_put (cs := #[.slice none 0 0, .slice none 0 0]) ?_ 0 _ rfl; (with_reducible repeat (first | refine blk_drewN ?_ _ | refine blk_drew ?_ | refine blk_alloc ?_ _)); exact BK358.out⟩
 have n4_ : Aside0 (IsS66 w ((w19.setCell ⟨gb358, 0, none⟩ (.slice Ao20 t351.length co20)).setCell ⟨gb358, 1, none⟩ (.slice Ao24 t354.length co24)) g350 t348 t357) := ⟨is66_⟩
 have n5_ : Aside0 (Below w.heap.size w ((w19.setCell ⟨gb358, 0, none⟩ (.slice Ao20 t351.length co20)).setCell ⟨gb358, 1, none⟩ (.slice Ao24 t354.length co24))) := ⟨bs_⟩
 (try clear HO353)
 (try clear HO356)
 (try clear BK347)
 (try clear BK358)
 (try clear HI350)
 (try clear HB)
 generalize ((w19.setCell ⟨gb358, 0, none⟩ (.slice Ao20 t351.length co20)).setCell ⟨gb358, 1, none⟩ (.slice Ao24 t354.length co24)) = w25 at n0_ n1_ n2_ n3_ n4_ n5_ ⊢
 have HO353 := n0_
 have HO356 := n1_
 have BK347 := n2_
 have BK358 := n3_
 have HI350 := n4_
 have HB := n5_
 clear n0_ n1_ n2_ n3_ n4_ n5_
 replace HO353 := Aside0.mk (Kd.R_drew HO353.out)
 replace HO356 := Aside0.mk (Kd.R_drew HO356.out)
 replace BK347 := Aside0.mk (blk_drew BK347.out)
 replace BK358 := Aside0.mk (blk_drew BK358.out)
 replace HI350 := Aside0.mk (IsS66.drew HI350.out)
 replace HB := Aside0.mk (below_drew1 HB.out)
 refine start_ (n := 8) (S := fun w' => w'.cell? ⟨gb358, 0, none⟩ = some (.slice Ao20 t351.length co20) ∧ w'.cell? ⟨gb358, 1, none⟩ = some (.slice Ao24 t354.length co24)) (ds := []) (bm 8 0) (by kernel_rfl) rfl rfl ⟨(blk_cell BK358.out 0).trans rfl, (blk_cell BK358.out 1).trans rfl⟩ (fun hHeld => ?_); refine with_tabW spec_DrawPartsOf.tab3 spec_DrawPartsOf.bits3 (fun HT_ HW_ => ?_)
 generalize w25.drew = w26 at HO353 HO356 BK347 BK358 HI350 HB hHeld ⊢
 refine sp_ 0 (some 11) (bm 8 1) HT_ (h := ?_)
 refine sp_ 3 (some 14) (bm 8 9) HT_ (h := ?_)
 refine sr_ 1 (some 12) (bm 8 11) HT_ HW_ hHeld (h := ?_)
 refine sr_ 4 (some 15) (bm 8 27) HT_ HW_ hHeld (h := ?_)
 refine sn_ 2 (some 13) (bm 8 31) HT_ (fun K hK => ?_)
 refine goes_ Try.func19 (by kernel_rfl) rfl #[.pointer (some ⟨g350, 0, none⟩), .agg #[.slice Ao20 t351.length co20, .slice Ao24 t354.length co24]] (by rfl) rfl rfl (by (try simp only [List.map_toArray, List.map_cons, List.map_nil]); first | done | rfl | (simp only [List.length_drop, List.length_take]; rfl)) ?_
 with_reducible refine (spec_l13Of.calls k g350 t348 t357 _ _ t351 _ _ t354 t359 t360 w _ ?side1 ?side2 ?side3 ?side4 ?side5 ?side6 A4.out).mono ?_
 (case side1 => exact is66_)
 (case side2 => exact bs_)
 (case side3 => exact Kd.C_foot_own (IsS66.apart (show IsS66 w _ g350 t348 t357 from is66_) (kR_ HO353) (by decide)) (fun _ h_ => h_.2))
 (case side4 => exact (Kd.R_reads' HO353.out).2.1)
 (case side5 => exact Kd.C_foot_own (IsS66.apart (show IsS66 w _ g350 t348 t357 from is66_) (kR_ HO356) (by decide)) (fun _ h_ => h_.2))
 (case side6 => exact (Kd.R_reads' HO356.out).2.1)
 rintro e w27 ⟨rfl, hi, hb, hk⟩
 refine ⟨_, rfl, ?_⟩
 replace BK347 := Aside0.mk (KeepBut.blk hk (g' := gb347) (o := .cells #[.slice none 0 0, .slice none 0 0] 26 (0, 0)) (bk_ BK347) NB347_350.out (by simp))
 replace HO353 := Aside0.mk (kaR66_ (kR_ HO353) hk)
 replace HO356 := Aside0.mk (kaR66_ (kR_ HO356) hk)
 replace BK358 := Aside0.mk (KeepBut.blk hk (g' := gb358) (o := .cells #[.slice Ao20 t351.length co20, .slice Ao24 t354.length co24] 26 (0, 0)) (bk_ BK358) NB358_350.out (by simp))
 replace HB := Aside0.mk (hb)
 replace HI350 := Aside0.mk (hi)
 (try clear hb)
 (try clear hb2)
 (try clear hk)
 (try clear hi)
 refine hK.out _ _ ⟨(blk_cell BK358.out 0).trans rfl, (blk_cell BK358.out 1).trans rfl⟩ (fun hHeld => ?_)
 clear hK K
 refine nm_ ?_
 refine sn_ 5 (some 16) (bm 8 63) HT_ (fun K hK => ?_)
 refine goes_ Try.func19 (by kernel_rfl) rfl #[.pointer (some ⟨g350, 0, none⟩), .agg #[.slice Ao20 t351.length co20, .slice Ao24 t354.length co24]] (by rfl) rfl rfl (by (try simp only [List.map_toArray, List.map_cons, List.map_nil]); first | done | rfl | (simp only [List.length_drop, List.length_take]; rfl)) ?_
 with_reducible refine (spec_l13Of.calls k g350 t348 t360 _ _ t351 _ _ t354 t361 t362 w _ ?side1 ?side2 ?side3 ?side4 ?side5 ?side6 A5.out).mono ?_
 (case side1 => exact is66_)
 (case side2 => exact bs_)
 (case side3 => exact Kd.C_foot_own (IsS66.apart (show IsS66 w _ g350 t348 t360 from is66_) (kR_ HO353) (by decide)) (fun _ h_ => h_.2))
 (case side4 => exact (Kd.R_reads' HO353.out).2.1)
 (case side5 => exact Kd.C_foot_own (IsS66.apart (show IsS66 w _ g350 t348 t360 from is66_) (kR_ HO356) (by decide)) (fun _ h_ => h_.2))
 (case side6 => exact (Kd.R_reads' HO356.out).2.1)
 rintro e w28 ⟨rfl, hi, hb, hk⟩
 refine ⟨_, rfl, ?_⟩
 replace BK347 := Aside0.mk (KeepBut.blk hk (g' := gb347) (o := .cells #[.slice none 0 0, .slice none 0 0] 26 (0, 0)) (bk_ BK347) NB347_350.out (by simp))
 replace HO353 := Aside0.mk (kaR66_ (kR_ HO353) hk)
 replace HO356 := Aside0.mk (kaR66_ (kR_ HO356) hk)
 replace BK358 := Aside0.mk (KeepBut.blk hk (g' := gb358) (o := .cells #[.slice Ao20 t351.length co20, .slice Ao24 t354.length co24] 26 (0, 0)) (bk_ BK358) NB358_350.out (by simp))
 replace HB := Aside0.mk (hb)
 replace HI350 := Aside0.mk (hi)
 (try clear hb)
 (try clear hb2)
 (try clear hk)
 (try clear hi)
 refine hK.out _ _ ⟨(blk_cell BK358.out 0).trans rfl, (blk_cell BK358.out 1).trans rfl⟩ (fun hHeld => ?_)
 clear hK K
 refine nm_ ?_
 refine sp_ 6 (some 17) (bm 8 127) HT_ (h := ?_)
 refine sp_ 7 (some 6) (bm 8 255) HT_ (h := ?_)
 refine done_ (done_of HT_.out (by kernel_rfl)) ?_
 try go_wp2_with (first | ((with_reducible refine gate_callee (f := 20) rfl ?_); refine gl_ 19 Try.func20 #[.pointer (some ⟨g350, 0, none⟩), .int .i64 3] ?_; (with_reducible refine (spec_l1Rd_pick.calls k g350 t348 t362 3 t363 t364 w _ ?side1 ?side2 A7.out).mono ?_); (case side1 => exact is66_); (case side2 => exact bs_); rintro e w29 ⟨rfl, hi, hb, hk⟩; refine ⟨_, rfl, ?_⟩; replace BK347 := Aside0.mk (KeepBut.blk hk (g' := gb347) (o := .cells #[.slice none 0 0, .slice none 0 0] 26 (0, 0)) (bk_ BK347) NB347_350.out (by simp)); replace HO353 := Aside0.mk (kaR66_ (kR_ HO353) hk); replace HO356 := Aside0.mk (kaR66_ (kR_ HO356) hk); replace BK358 := Aside0.mk (KeepBut.blk hk (g' := gb358) (o := .cells #[.slice Ao20 t351.length co20, .slice Ao24 t354.length co24] 26 (0, 0)) (bk_ BK358) NB358_350.out (by simp)); replace HB := Aside0.mk (hb); replace HI350 := Aside0.mk (hi); (try clear hb); (try clear hb2); (try clear hk); (try clear hi); have hcz30_0 := bc0_ BK358; have hcz30_1 := bc1_ BK358; have hfz30_0 := blk_frozen BK358.out 0; have hfz30_1 := blk_frozen BK358.out 1) | ((with_reducible refine gate_callee (f := 19) rfl ?_); refine gl_ 24 Try.func19 #[.pointer (some ⟨g350, 0, none⟩), .agg #[.slice Ao20 t351.length co20, .slice Ao24 t354.length co24]] ?_; (with_reducible refine (spec_l13Of.calls k g350 t348 t364 _ _ t351 _ _ t354 t365 t366 w _ ?side1 ?side2 ?side3 ?side4 ?side5 ?side6 A9.out).mono ?_); (case side1 => exact is66_); (case side2 => exact bs_); (case side3 => exact Kd.C_foot_own (IsS66.apart (show IsS66 w _ g350 t348 t364 from is66_) (kR_ HO353) (by decide)) (fun _ h_ => h_.2)); (case side4 => exact (Kd.R_reads' HO353.out).2.1); (case side5 => exact Kd.C_foot_own (IsS66.apart (show IsS66 w _ g350 t348 t364 from is66_) (kR_ HO356) (by decide)) (fun _ h_ => h_.2)); (case side6 => exact (Kd.R_reads' HO356.out).2.1); rintro e w31 ⟨rfl, hi, hb, hk⟩; refine ⟨_, rfl, ?_⟩; replace BK347 := Aside0.mk (KeepBut.blk hk (g' := gb347) (o := .cells #[.slice none 0 0, .slice none 0 0] 26 (0, 0)) (bk_ BK347) NB347_350.out (by simp)); replace HO353 := Aside0.mk (kaR66_ (kR_ HO353) hk); replace HO356 := Aside0.mk (kaR66_ (kR_ HO356) hk); replace BK358 := Aside0.mk (KeepBut.blk hk (g' := gb358) (o := .cells #[.slice Ao20 t351.length co20, .slice Ao24 t354.length co24] 26 (0, 0)) (bk_ BK358) NB358_350.out (by simp)); replace HB := Aside0.mk (hb); replace HI350 := Aside0.mk (hi); (try clear hb); (try clear hb2); (try clear hk); (try clear hi)) | (go_at_call 20; (with_reducible refine (spec_l1Rd_pick.calls k g350 t348 t366 4 t367 t368 w _ ?side1 ?side2 A12.out).mono ?_); (case side1 => exact is66_); (case side2 => exact bs_); rintro e w32 ⟨rfl, hi, hb, hk⟩; replace BK347 := Aside0.mk (KeepBut.blk hk (g' := gb347) (o := .cells #[.slice none 0 0, .slice none 0 0] 26 (0, 0)) (bk_ BK347) NB347_350.out (by simp)); replace HO353 := Aside0.mk (kaR66_ (kR_ HO353) hk); replace HO356 := Aside0.mk (kaR66_ (kR_ HO356) hk); replace BK358 := Aside0.mk (KeepBut.blk hk (g' := gb358) (o := .cells #[.slice Ao20 t351.length co20, .slice Ao24 t354.length co24] 26 (0, 0)) (bk_ BK358) NB358_350.out (by simp)); replace HB := Aside0.mk (hb); replace HI350 := Aside0.mk (hi); (try clear hb); (try clear hb2); (try clear hk); (try clear hi); have hcz33_0 := bc0_ BK358; have hcz33_1 := bc1_ BK358; have hfz33_0 := blk_frozen BK358.out 0; have hfz33_1 := blk_frozen BK358.out 1; have hnb34 := NB347_350.out; have hnc34 := NB350_347.out; have hcz35_0 := bc0_ BK347; have hcz35_1 := bc1_ BK347; have hfz35_0 := blk_frozen BK347.out 0; have hfz35_1 := blk_frozen BK347.out 1))
 refine bodyPost_ret (results_ct rfl _ _ gb347 26 #[.slice Ao20 t351.length co20, .slice Ao24 t354.length co24] (0, 0) _ rfl bq_ Try.underlying26 rfl (by kernel_rfl)) rfl ?_
 exact ⟨_, _, rfe_, by (with_reducible repeat (first | apply Kd.R_alloc | apply Kd.R_drewN | apply Kd.R_drew)); exact Kd.R_mono (Kd.R_far (p := ⟨gb347, 1, none⟩) (Kd.R_far (p := ⟨gb347, 0, none⟩) (Kd.R_types HO353.out BK347.out (by decide)) (fun _ hk => hk.2) (.slice Ao20 t351.length co20)) (fun _ hk => hk.2) (.slice Ao24 t354.length co24)) (fun _ hk => trivial), by (with_reducible repeat (first | apply Kd.R_alloc | apply Kd.R_drewN | apply Kd.R_drew)); exact Kd.R_mono (Kd.R_far (p := ⟨gb347, 1, none⟩) (Kd.R_far (p := ⟨gb347, 0, none⟩) (Kd.R_types HO356.out BK347.out (by decide)) (fun _ hk => hk.2) (.slice Ao20 t351.length co20)) (fun _ hk => hk.2) (.slice Ao24 t354.length co24)) (fun _ hk => trivial), bs_⟩

end Go.Proofs.Ytbopiacjioedeaa.P
