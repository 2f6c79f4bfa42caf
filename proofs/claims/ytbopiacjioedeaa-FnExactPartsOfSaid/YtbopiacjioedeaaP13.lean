-- Written by a program of this session (wip/gen/gen.py) out of Lean's print of the loaded program; Lean checks it.
import Derived.Test.YtbopiacjioedeaaP0
import Derived.Test.YtbopiacjioedeaaSq2
import Derived.Test.YtbopiacjioedeaaExtPut
import Derived.Test.YtbopiacjioedeaaP8
import Derived.Test.YtbopiacjioedeaaP10
import Derived.Test.YtbopiacjioedeaaP11
import Derived.Test.YtbopiacjioedeaaP12
namespace Go.Proofs.Ytbopiacjioedeaa.P
open Go.RowKit Go.Proofs.YtbopiacjioedeaaW.PrintWords Go.Proofs.YtbopiacjioedeaaW.PrintLast Go.Proofs.YtbopiacjioedeaaW.PrintMore
attribute [local go_sem] max2_int min2_int max_two min_two max_three min_three max_four min_four IntKind.wrap_u8 IntKind.wrap_u32 w64_256 w64_u32
set_option maxHeartbeats 8000000
set_option maxRecDepth 100000
set_option linter.unusedVariables false
set_option linter.unusedSimpArgs false

/-! ### spec_l2Forms: function 53 -/
def spec_l2Forms.f (k : Nat) (l0 : List (S68)) (a1_0 : ByteArray) (a1_1 : ByteArray) : Option (List ByteArray) := (spec_l2One.f k l0 a1_1 false (([a1_0] : List ByteArray))).bind fun t324 => ((spec_l2One.f k l0 a1_1 true t324).bind fun t327 => (some t327))
theorem spec_l2Forms.mono : ∀ a0 a1 a2 k, LeO (spec_l2Forms.f k a0 a1 a2) (spec_l2Forms.f (k + 1) a0 a1 a2) := by
 intro a0 a1 a2 k
 unfold spec_l2Forms.f
 have m0 := @spec_l2One.mono
 exact mn_
def spec_l2Forms.T1 : Bool × List (List Nat × List Nat) := (true, [([], []), ([], []), ([1], [1]), ([], []), ([], []), ([4], [4]), ([], []), ([6], [6]), ([7], [7]), ([3, 5, 8], [3, 5, 8]), ([0, 2, 9, 9], [0, 2, 9]), ([10, 10, 0, 1, 2, 3, 4, 5, 6, 7, 8, 9, 10], [10])])
def spec_l2Forms.B1 : List Nat := [0, 0, 2, 0, 0, 16, 0, 64, 192, 504, 1023, 2047]
theorem spec_l2Forms.tab1 : rtab .any (opsOf Try.f53 1) = spec_l2Forms.T1 := by kernel_rfl
theorem spec_l2Forms.bits1 : waitsOk spec_l2Forms.T1.2 spec_l2Forms.B1 = true := by kernel_rfl
theorem spec_l2Forms.calls (k : Nat) (A0 : Option Addr) (c0 : Nat) (l0 : List (S68)) (a1_0 : ByteArray) (a1_1 : ByteArray) (r : List ByteArray) (w : World) (hr0 : Kd.C k68 w A0 l0.length l0) (hc0 : l0.length ≤ c0) (h : spec_l2Forms.f k l0 a1_0 a1_1 = some r) :
 Calls Try.prog 53 #[.slice A0 l0.length c0, .agg #[.string a1_0, .string a1_1]] w fun e w' => ∃ v0_ : Value, e = .returned (v0_) ∧ Kd.R Kd.string 9 w' w.heap.size (fun _ => True) v0_ r ∧ Below w.heap.size w w' := by
 have hu73 := Try.underlying73
 have HR0 := Aside0.mk hr0
 have HC0 := Aside0.mk hc0
 clear hr0 hc0
 have HB := Aside0.mk (Below.refl w.heap.size w)
 unfold spec_l2Forms.f at h; have H := h; clear h
 obtain ⟨y321, hy_⟩ : ∃ y_ : List ByteArray, y_ = (([a1_0] : List ByteArray)) := ⟨_, rfl⟩
 replace H : ((spec_l2One.f k l0 a1_1 false y321).bind fun t324 => ((spec_l2One.f k l0 a1_1 true t324).bind fun t327 => (some t327))) = some r := ry_
 have Ny321 := Aside0.mk hy_; clear hy_
 replace H := Option.bind_eq_some_iff.mp H
 obtain ⟨t324, A30, H⟩ := H; try dsimp only at H
 have A3 := Aside0.mk A30
 clear A30
 replace H := Option.bind_eq_some_iff.mp H
 obtain ⟨t327, A40, H⟩ := H; try dsimp only at H
 have A4 := Aside0.mk A40
 clear A40
 obtain rfl := Option.some.inj H
 go_enter Try.func53, Try.ntmps53
 try go_wp2_with (first | ((with_reducible refine gate_dst (N := 3) rfl ?_); refine be_ 3 73 #[.string a1_0, .string a1_1] ?_; intro gb320 hg w5 hbox hb; have BK320 := Aside0.mk (hbox); have GW320 := Aside0.mk ((gs_ hg : w.heap.size ≤ gb320)); have GE320 := Aside0.mk ((gs_ hg : w.heap.size ≤ gb320)); replace HB := Aside0.mk (below_step (bl_) hb); clear hb hbox hg))
 replace BK320 := Aside0.mk (blk_drew BK320.out)
 replace HB := Aside0.mk (below_drew1 HB.out)
 refine start_ (n := 12) (S := fun w' => w'.cell? ⟨gb320, 0, none⟩ = some (.string a1_0) ∧ w'.cell? ⟨gb320, 1, none⟩ = some (.string a1_1)) (ds := []) (bm 12 0) (by kernel_rfl) rfl rfl ⟨(blk_cell BK320.out 0).trans rfl, (blk_cell BK320.out 1).trans rfl⟩ (fun hHeld => ?_); refine with_tabW spec_l2Forms.tab1 spec_l2Forms.bits1 (fun HT_ HW_ => ?_)
 generalize w5.drew = w6 at BK320 HB hHeld ⊢
 refine sp_ 0 (some 5) (bm 12 1) HT_ (h := ?_)
 refine sp_ 1 (some 6) (bm 12 3) HT_ (h := ?_)
 refine sp_ 3 (some 8) (bm 12 11) HT_ (h := ?_)
 refine sp_ 4 (some 9) (bm 12 27) HT_ (h := ?_)
 refine sp_ 6 (some 11) (bm 12 91) HT_ (h := ?_)
 refine sr_ 2 (some 7) (bm 12 95) HT_ HW_ hHeld (h := ?_)
 refine sr_ 5 (some 10) (bm 12 127) HT_ HW_ hHeld (h := ?_)
 refine sr_ 7 (some 12) (bm 12 255) HT_ HW_ hHeld (h := ?_)
 refine sn_ 8 (some 13) (bm 12 511) HT_ (fun K hK => ?_)
 refine Kd.R_lit_step Kd.string _ 9 ?hg (N := 13) ?hd (xs := ([a1_0] : List ByteArray)) (inner := [.string a1_0]) (ok := fun _ => True) (okp := fun _ => True) ?hr ?hp (fun _ hk => hk) trivial (Below.refl _ _) (Nat.le_refl _) (by simp) ?_; (case hd => rfl); (case hg => rfl); (case hr => first | (go_simp; done) | (go_simp; rfl)); (case hp => exact (Reps.one (show Kd.M Kd.string _ _ _ a1_0 [.string a1_0] from rfl) (Reps.none _ _)))
 intro v322 w7 ho8 hb hg_ hnew_
 clear hg_ hnew_
 (first | rw [← Ny321.out] at ho8 | (simp only [Int.reduceToNat, Int.toNat_natCast] at ho8; rw [← Ny321.out] at ho8))
 have HO323 := Aside0.mk (Kd.R_lower ho8 (below_size (bl_)))
 replace BK320 := Aside0.mk (blk_below (bk_ BK320) hb)
 replace HB := Aside0.mk (below_step (bl_) hb)
 clear hb ho8
 obtain ⟨Ao9, co9, eo9⟩ := Kd.R_slice HO323.out
 (first | subst eo9 | (injection eo9 with f1_ f2_ f3_; have f4_ := f1_.symm; have f5_ := f3_.symm; clear f1_ f2_ f3_; subst f4_; subst f5_))
 refine hK.out _ _ ⟨(blk_cell BK320.out 0).trans rfl, (blk_cell BK320.out 1).trans rfl⟩ (fun hHeld => ?_)
 clear hK K
 refine nm_ ?_
 refine sn_ 9 (some 14) (bm 12 1023) HT_ (fun K hK => ?_)
 refine goes_ Try.func76 (by kernel_rfl) rfl #[.slice A0 l0.length c0, .string a1_1, .bool false, .slice Ao9 y321.length co9] (by rfl) rfl rfl (by (try simp only [List.map_toArray, List.map_cons, List.map_nil]); first | done | rfl | (simp only [List.length_drop, List.length_take]; rfl)) ?_
 with_reducible refine (spec_l2One.calls k _ _ l0 a1_1 false _ _ y321 t324 _ ?side1 ?side2 ?side3 ?side4 A3.out).mono ?_
 (case side1 => exact cb_ HR0)
 (case side2 => exact HC0.out)
 (case side3 => exact cr_ HO323)
 (case side4 => exact (Kd.R_reads' HO323.out).2.1)
 rintro e w10 ⟨v325, rfl, ho0, hb⟩
 refine ⟨_, rfl, ?_⟩
 have HO326 := Aside0.mk (Kd.R_lower (Kd.R_new' ho0 (Kd.R_lt (kR_ HO323))) (below_size (bl_)))
 replace HO323 := Aside0.mk (Kd.R_elder' (kR_ HO323) (Kd.R_base ho0) hb)
 replace BK320 := Aside0.mk (blk_below (bk_ BK320) hb)
 replace HB := Aside0.mk (below_step (bl_) hb)
 (try clear hb)
 (try clear hb2)
 (try clear hk)
 (try clear hi)
 (try clear ho0)
 obtain ⟨Ao11, co11, eo11⟩ := Kd.R_slice HO326.out
 (first | subst eo11 | (injection eo11 with f1_ f2_ f3_; have f4_ := f1_.symm; have f5_ := f3_.symm; clear f1_ f2_ f3_; subst f4_; subst f5_))
 refine hK.out _ _ ⟨(blk_cell BK320.out 0).trans rfl, (blk_cell BK320.out 1).trans rfl⟩ (fun hHeld => ?_)
 clear hK K
 refine nm_ ?_
 refine sn_ 10 (some 15) (bm 12 2047) HT_ (fun K hK => ?_)
 refine goes_ Try.func76 (by kernel_rfl) rfl #[.slice A0 l0.length c0, .string a1_1, .bool true, .slice Ao11 t324.length co11] (by rfl) rfl rfl (by (try simp only [List.map_toArray, List.map_cons, List.map_nil]); first | done | rfl | (simp only [List.length_drop, List.length_take]; rfl)) ?_
 with_reducible refine (spec_l2One.calls k _ _ l0 a1_1 true _ _ t324 t327 _ ?side1 ?side2 ?side3 ?side4 A4.out).mono ?_
 (case side1 => exact cb_ HR0)
 (case side2 => exact HC0.out)
 (case side3 => exact cr_ HO326)
 (case side4 => exact (Kd.R_reads' HO326.out).2.1)
 rintro e w12 ⟨v328, rfl, ho0, hb⟩
 refine ⟨_, rfl, ?_⟩
 have HO329 := Aside0.mk (Kd.R_lower (Kd.R_new' (Kd.R_new' ho0 (Kd.R_lt (kR_ HO323))) (Kd.R_lt (kR_ HO326))) (below_size (bl_)))
 replace HO323 := Aside0.mk (Kd.R_elder' (kR_ HO323) (Kd.R_base ho0) hb)
 replace HO326 := Aside0.mk (Kd.R_elder' (kR_ HO326) (Kd.R_base ho0) hb)
 replace BK320 := Aside0.mk (blk_below (bk_ BK320) hb)
 replace HB := Aside0.mk (below_step (bl_) hb)
 (try clear hb)
 (try clear hb2)
 (try clear hk)
 (try clear hi)
 (try clear ho0)
 refine hK.out _ _ ⟨(blk_cell BK320.out 0).trans rfl, (blk_cell BK320.out 1).trans rfl⟩ (fun hHeld => ?_)
 clear hK K
 refine nm_ ?_
 refine sp_ 11 (some 4) (bm 12 4095) HT_ (h := ?_)
 refine done_ (done_of HT_.out (by kernel_rfl)) ?_
 try go_wp2
 go_ret
 exact ⟨_, rfe_, by (with_reducible repeat (first | apply Kd.R_alloc | apply Kd.R_drewN | apply Kd.R_drew)); exact Kd.R_mono HO329.out (fun _ hk => trivial), bl_⟩

/-! ### spec_l2Words: function 28 -/
mutual
def spec_l2Words.l0 : Nat → List ByteArray → Int → List (S68) → List (S73) → Option (List ByteArray)
 | 0, _, _, _, _ => none
 | k + 1, x3, x4, x331000, x331001 => if x4 < (x331001.length : Int) then (if 0 ≤ x4 then ((spec_l2Forms.f k x331000 ((rd_T73 x331001 x4).f0) ((rd_T73 x331001 x4).f1)).bind fun t335 => (spec_l2Words.l1 k x3 x4 t335 0 x331000 x331001)) else (none)) else (some x3)
def spec_l2Words.l1 : Nat → List ByteArray → Int → List ByteArray → Int → List (S68) → List (S73) → Option (List ByteArray)
 | 0, _, _, _, _, _, _ => none
 | k + 1, x3, x4, x5, x6, x331000, x331001 => if x6 < (x5.length : Int) then (if 0 ≤ x6 then ((spec_l1Put.f k x3 (rdOf ByteArray.empty x5 x6)).bind fun t339 => (spec_l2Words.l1 k t339 x4 x5 (wrap64 (x6 + 1)) x331000 x331001)) else (none)) else (spec_l2Words.l0 k x3 (wrap64 (x4 + 1)) x331000 x331001)
end
def spec_l2Words.f (k : Nat) (l0_0 : List (S68)) (l0_1 : List (S73)) : Option (List ByteArray) := spec_l2Words.l0 k (([] : List ByteArray)) 0 l0_0 l0_1
theorem spec_l2Words.mono_l : ∀ k, (∀ y0 y1 y2 y3, LeO (spec_l2Words.l0 k y0 y1 y2 y3) (spec_l2Words.l0 (k + 1) y0 y1 y2 y3)) ∧ (∀ y0 y1 y2 y3 y4 y5, LeO (spec_l2Words.l1 k y0 y1 y2 y3 y4 y5) (spec_l2Words.l1 (k + 1) y0 y1 y2 y3 y4 y5))
 | 0 => ⟨fun _ _ _ _ r h => by simp [spec_l2Words.l0] at h, fun _ _ _ _ _ _ r h => by simp [spec_l2Words.l1] at h⟩
 | k + 1 => by
  obtain ⟨ih0, ih1⟩ := spec_l2Words.mono_l k
  refine ⟨?_, ?_⟩
  · intro y0 y1 y2 y3
    unfold spec_l2Words.l0
    have m0 := @spec_l1Put.mono
    have m1 := @spec_l2Forms.mono
    exact mn_
  · intro y0 y1 y2 y3 y4 y5
    unfold spec_l2Words.l1
    have m0 := @spec_l1Put.mono
    have m1 := @spec_l2Forms.mono
    exact mn_
theorem spec_l2Words.mono : ∀ a0 a1 k, LeO (spec_l2Words.f k a0 a1) (spec_l2Words.f (k + 1) a0 a1) := by
 intro a0 a1 k
 obtain ⟨ih0, ih1⟩ := spec_l2Words.mono_l k
 unfold spec_l2Words.f
 have m0 := @spec_l1Put.mono
 have m1 := @spec_l2Forms.mono
 exact mn_
def spec_l2Words.T5 : Bool × List (List Nat × List Nat) := (true, [([], []), ([0], [0]), ([], []), ([2], [2]), ([], []), ([3, 4], [3, 4]), ([5], [5]), ([1, 6], [1, 6]), ([7, 7, 0, 1, 2, 3, 4, 5, 6, 7], [7])])
def spec_l2Words.B5 : List Nat := [0, 1, 0, 4, 0, 28, 60, 127, 255]
theorem spec_l2Words.tab5 : rtab .any (opsOf Try.f28 5) = spec_l2Words.T5 := by kernel_rfl
theorem spec_l2Words.bits5 : waitsOk spec_l2Words.T5.2 spec_l2Words.B5 = true := by kernel_rfl
theorem spec_l2Words.calls (k : Nat) (A0_0 : Option Addr) (c0_0 : Nat) (l0_0 : List (S68)) (A0_1 : Option Addr) (c0_1 : Nat) (l0_1 : List (S73)) (r : List ByteArray) (w : World) (hr0_0 : Kd.C k68 w A0_0 l0_0.length l0_0) (hc0_0 : l0_0.length ≤ c0_0) (hr0_1 : Kd.C k73 w A0_1 l0_1.length l0_1) (hc0_1 : l0_1.length ≤ c0_1) (h : spec_l2Words.f k l0_0 l0_1 = some r) :
 Calls Try.prog 28 #[.agg #[.slice A0_0 l0_0.length c0_0, .slice A0_1 l0_1.length c0_1]] w fun e w' => ∃ v0_ : Value, e = .returned (v0_) ∧ Kd.R Kd.string 9 w' w.heap.size (fun _ => True) v0_ r ∧ Below w.heap.size w w' := by
 have hu26 := Try.underlying26
 have hu73 := Try.underlying73
 have HR0_0 := Aside0.mk hr0_0
 have HC0_0 := Aside0.mk hc0_0
 clear hr0_0 hc0_0
 have HR0_1 := Aside0.mk hr0_1
 have HC0_1 := Aside0.mk hc0_1
 clear hr0_1 hc0_1
 have HB := Aside0.mk (Below.refl w.heap.size w)
 unfold spec_l2Words.f at h; have H := h; clear h
 obtain ⟨y331, hy_⟩ : ∃ y_ : List ByteArray, y_ = (([] : List ByteArray)) := ⟨_, rfl⟩
 replace H : (spec_l2Words.l0 k y331 0 l0_0 l0_1) = some r := ry_
 have Ny331 := Aside0.mk hy_; clear hy_
 have H' := Aside0.mk H; clear H
 go_enter Try.func28, Try.ntmps28
 go_wp2_with (first | ((with_reducible refine gate_dst (N := 1) rfl ?_); refine be_ 1 26 #[.slice A0_0 l0_0.length c0_0, .slice A0_1 l0_1.length c0_1] ?_; intro gb330 hg w2 hbox hb; have BK330 := Aside0.mk (hbox); have GW330 := Aside0.mk ((gs_ hg : w.heap.size ≤ gb330)); have GE330 := Aside0.mk ((gs_ hg : w.heap.size ≤ gb330)); replace HB := Aside0.mk (below_step (bl_) hb); clear hb hbox hg) | ((with_reducible refine gate_dst (N := 7) rfl ?_); refine rl_ Kd.string 9 7 ([] : List ByteArray) [] ?_; intro v332 w3 ho4 hb hg_ hnew_; clear hg_ hnew_; (first | rw [← Ny331.out] at ho4 | (simp only [Int.reduceToNat, Int.toNat_natCast] at ho4; rw [← Ny331.out] at ho4)); have HO333 := Aside0.mk (Kd.R_lower ho4 (below_size (bl_))); replace BK330 := Aside0.mk (blk_below (bk_ BK330) hb); replace HB := Aside0.mk (below_step (bl_) hb); clear hb ho4))
 go_loopg [3, 4] k (fun kq v3 v4 w' => ∃ (x3_1 : List ByteArray) (x4_1 : Int), v4 = .int .i64 x4_1 ∧ Aside0 (spec_l2Words.l0 kq x3_1 x4_1 l0_0 l0_1 = some r) ∧ Aside0 (kq ≤ k) ∧ Aside0 (Kd.R Kd.string 9 w' w.heap.size (fun _ => True) v3 x3_1) ∧ Aside0 (w'.heap[gb330]? = some (.cells #[(.slice A0_0 l0_0.length c0_0), (.slice A0_1 l0_1.length c0_1)] 26 (0, 0))) ∧ Aside0 (Below w.heap.size w w'))
 case atStart => exact ⟨(y331), (0), rf_, H', ⟨Nat.le_refl _⟩, ⟨kR_ HO333⟩, ⟨by (with_reducible repeat (first | refine blk_drewN ?_ _ | refine blk_drew ?_ | refine blk_alloc ?_ _)); exact BK330.out⟩, ⟨bl_⟩⟩
 case round =>
  clear H'
  (try clear c2);(try clear p2)
  obtain ⟨x3_1, x4_1, rfl, HA, HK1, HO_3, BK330, HB⟩ := hrel
  cases gk with
  | zero => exact absurd HA.out (by simp [spec_l2Words.l0])
  | succ k1 =>
   have H := HA.out
   clear HA
   simp only [spec_l2Words.l0] at H
   replace H := iucd_ H; rcases H with ⟨c5b0, H⟩ | ⟨c5, H⟩
   · obtain rfl := Option.some.inj H
     have hcz18_0 := bc0_ BK330
     have hcz18_1 := bc1_ BK330
     have hfz18_0 := blk_frozen BK330.out 0
     have hfz18_1 := blk_frozen BK330.out 1
     go_wp2
     go_ret
     exact ⟨_, rfe_, kR_ HO_3, bl_⟩
   have c5b0 : decide (x4_1 < (l0_1.length : Int)) = true := decide_eq_true c5
   clear c5
   replace H := inc_ H; obtain ⟨c6, H⟩ := H
   have c6b0 : decide (0 ≤ x4_1) = true := decide_eq_true c6
   clear c6
   replace H := Option.bind_eq_some_iff.mp H
   obtain ⟨t335, A70, H⟩ := H; try dsimp only at H
   have A7 := Aside0.mk A70
   clear A70
   have H' := Aside0.mk H; clear H
   have hcz8_0 := bc0_ BK330
   have hcz8_1 := bc1_ BK330
   have hfz8_0 := blk_frozen BK330.out 0
   have hfz8_1 := blk_frozen BK330.out 1
   try go_wp2
   replace HO_3 := Aside0.mk (Kd.R_drew HO_3.out)
   replace BK330 := Aside0.mk (blk_drew BK330.out)
   replace HB := Aside0.mk (below_drew1 HB.out)
   have p334 : 0 ≤ (x4_1 : Int) := od_
   have q334 : x4_1 < (l0_1.length : Int) := od_
   obtain ⟨ad334, e334, hx334_0, hx334_1⟩ := at_T73 HR0_1.out x4_1 p334 q334
   have hw334_1 := hx334_1
   have hw334_0 := hx334_0
   cases e334
   replace hx334_0 := hc_ HB hx334_0
   replace hx334_1 := hc_ HB hx334_1
   replace p334 := eq_true p334; replace q334 := eq_true q334
   refine start_ (n := 9) (S := fun w' => w'.cell? ⟨gb330, 0, none⟩ = some (.slice A0_0 l0_0.length c0_0) ∧ w'.cell? ⟨gb330, 1, none⟩ = some (.slice (some ad334) l0_1.length c0_1) ∧ w'.cell? (ad334.add ((x4_1).toNat * 2)) = some (.string ((rd_T73 l0_1 x4_1).f0)) ∧ w'.cell? ⟨(ad334.add ((x4_1).toNat * 2)).block, (ad334.add ((x4_1).toNat * 2)).off + 1, none⟩ = some (.string ((rd_T73 l0_1 x4_1).f1))) (ds := []) (bm 9 0) (by kernel_rfl) rfl rfl ⟨(blk_cell BK330.out 0).trans rfl, (blk_cell BK330.out 1).trans rfl, ((HB.out.cell (World.block_lt_of_cell? w _ hw334_0)).trans hw334_0), ((HB.out.cell (World.block_lt_of_cell? w _ hw334_1)).trans hw334_1)⟩ (fun hHeld => ?_); refine with_tabW spec_l2Words.tab5 spec_l2Words.bits5 (fun HT_ HW_ => ?_)
   generalize wr.drew = w9 at HO_3 BK330 HB hx334_0 hx334_1 hHeld ⊢
   refine sp_ 0 (some 15) (bm 9 1) HT_ (h := ?_)
   refine sp_ 2 (some 17) (bm 9 5) HT_ (h := ?_)
   refine sp_ 4 (some 19) (bm 9 21) HT_ (h := ?_)
   refine sr_ 1 (some 16) (bm 9 23) HT_ HW_ hHeld (h := ?_)
   refine sr_ 3 (some 18) (bm 9 31) HT_ HW_ hHeld (h := ?_)
   refine sp_ 5 (some 20) (bm 9 63) HT_ (h := ?_)
   refine sr_ 6 (some 21) (bm 9 127) HT_ HW_ hHeld (h := ?_)
   refine sn_ 7 (some 22) (bm 9 255) HT_ (fun K hK => ?_)
   refine goes_ Try.func53 (by kernel_rfl) rfl #[.slice A0_0 l0_0.length c0_0, .agg #[.string ((rd_T73 l0_1 x4_1).f0), .string ((rd_T73 l0_1 x4_1).f1)]] (by rfl) rfl rfl (by (try simp only [List.map_toArray, List.map_cons, List.map_nil]); first | done | rfl | (simp only [List.length_drop, List.length_take]; rfl)) ?_
   with_reducible refine (spec_l2Forms.calls k1 _ _ l0_0 ((rd_T73 l0_1 x4_1).f0) ((rd_T73 l0_1 x4_1).f1) t335 _ ?side1 ?side2 A7.out).mono ?_
   (case side1 => exact cb_ HR0_0)
   (case side2 => exact HC0_0.out)
   rintro e w10 ⟨v336, rfl, ho0, hb⟩
   refine ⟨_, rfl, ?_⟩
   have HO337 := Aside0.mk (Kd.R_lower (Kd.R_new' ho0 (Kd.R_lt (kR_ HO_3))) (below_size (bl_)))
   replace HO_3 := Aside0.mk (Kd.R_elder' (kR_ HO_3) (Kd.R_base ho0) hb)
   replace BK330 := Aside0.mk (blk_below (bk_ BK330) hb)
   replace HB := Aside0.mk (below_step (bl_) hb)
   (try clear hb)
   (try clear hb2)
   (try clear hk)
   (try clear hi)
   (try clear ho0)
   refine hK.out _ _ ⟨(blk_cell BK330.out 0).trans rfl, (blk_cell BK330.out 1).trans rfl, ((HB.out.cell (World.block_lt_of_cell? w _ hw334_0)).trans hw334_0), ((HB.out.cell (World.block_lt_of_cell? w _ hw334_1)).trans hw334_1)⟩ (fun hHeld => ?_)
   clear hK K
   refine nm_ ?_
   refine sp_ 8 (some 5) (bm 9 511) HT_ (h := ?_)
   refine done_ (done_of HT_.out (by kernel_rfl)) ?_
   try go_wp2
   go_loopg [3, 6] k1 (fun kq v3 v6 w' => ∃ (x3_2 : List ByteArray) (x6_2 : Int), v6 = .int .i64 x6_2 ∧ Aside0 (spec_l2Words.l1 kq x3_2 x4_1 t335 x6_2 l0_0 l0_1 = some r) ∧ Aside0 (kq ≤ k1) ∧ Aside0 (Kd.R Kd.string 9 w' w.heap.size (fun k_ => some k_ ≠ (v336 : Value).ownBlock) v3 x3_2) ∧ Aside0 (Kd.R Kd.string 9 w' w.heap.size (fun k_ => some k_ ≠ (v3 : Value).ownBlock) v336 t335) ∧ Aside0 (w'.heap[gb330]? = some (.cells #[(.slice A0_0 l0_0.length c0_0), (.slice (some ad334) l0_1.length c0_1)] 26 (0, 0))) ∧ Aside0 (Below w.heap.size w w'))
   case atStart => exact ⟨(x3_1), (0), rf_, H', ⟨Nat.le_refl _⟩, ⟨by (with_reducible repeat (first | apply Kd.R_alloc | apply Kd.R_drewN | apply Kd.R_drew)); exact Kd.R_mono HO_3.out (fun _ hk => hk.2)⟩, ⟨by (with_reducible repeat (first | apply Kd.R_alloc | apply Kd.R_drewN | apply Kd.R_drew)); exact Kd.R_mono HO337.out (fun _ hk => hk.2)⟩, ⟨by (with_reducible repeat (first | refine blk_drewN ?_ _ | refine blk_drew ?_ | refine blk_alloc ?_ _)); exact BK330.out⟩, ⟨bl_⟩⟩
   case round =>
    clear H'
    (try clear c2);(try clear p2);(try clear p3);(try clear q3);(try clear hx3);(try clear c5);(try clear c5b0);(try clear c6);(try clear c6b0);(try clear hcz8_0);(try clear hcz8_1);(try clear hfz8_0);(try clear hfz8_1);(try clear hx334_0);(try clear hx334_1);(try clear p2);(try clear p334);(try clear q334)
    obtain ⟨x3_2, x6_2, rfl, HA, HK2, HO_3, HO_5, BK330, HB⟩ := hrel
    cases gk with
    | zero => exact absurd HA.out (by simp [spec_l2Words.l1])
    | succ k2 =>
     have H := HA.out
     clear HA
     simp only [spec_l2Words.l1] at H
     replace H := iudd_ H; rcases H with ⟨c11b0, H⟩ | ⟨c11b0, H⟩
     · have H' := Aside0.mk H
       clear H
       obtain ⟨Ao17, co17, eo17⟩ := Kd.R_slice HO_5.out
       subst eo17
       go_wp2
       go_roundg k2
       case measure => have := HK1.out; have := HK2.out; omega
       case rel => exact ⟨(x3_2), (wrap64 (x4_1 + 1)), rf_, H', ⟨by have := HK1.out; have := HK2.out; omega⟩, ⟨by (with_reducible repeat (first | apply Kd.R_alloc | apply Kd.R_drewN | apply Kd.R_drew)); exact Kd.R_mono HO_3.out (fun _ hk => trivial)⟩, ⟨by (with_reducible repeat (first | refine blk_drewN ?_ _ | refine blk_drew ?_ | refine blk_alloc ?_ _)); exact BK330.out⟩, ⟨bl_⟩⟩
     replace H := ind_ H; obtain ⟨c12b0, H⟩ := H
     replace H := Option.bind_eq_some_iff.mp H
     obtain ⟨t339, A130, H⟩ := H; try dsimp only at H
     have A13 := Aside0.mk A130
     clear A130
     have H' := Aside0.mk H; clear H
     obtain ⟨Ao14, co14, eo14⟩ := Kd.R_slice HO_5.out
     subst eo14
     have p338 : 0 ≤ (x6_2 : Int) := od_
     have q338 : x6_2 < (t335.length : Int) := od_
     obtain ⟨ad338, e338, hx338_0⟩ := Kd.at_string (Kd.R_reads' HO_5.out).2.2 x6_2 p338 q338
     cases e338
     replace p338 := eq_true p338; replace q338 := eq_true q338
     obtain ⟨Ao15, co15, eo15⟩ := Kd.R_slice HO_3.out
     subst eo15
     go_wp2_with (first | ((with_reducible refine gate_callee (f := 54) rfl ?_); refine gl_ 34 Try.func54 #[.slice Ao15 x3_2.length co15, .string (rdOf ByteArray.empty t335 x6_2)] ?_; (with_reducible refine (spec_l1Put.calls k2 (fun k_ => some k_ = (.slice Ao15 x3_2.length co15 : Value).ownBlock) (.slice Ao15 x3_2.length co15) x3_2 (rdOf ByteArray.empty t335 x6_2) t339 w _ ?side1 ?side2 A13.out).mono ?_); (case side1 => exact bs_); (case side2 => exact Kd.R_tight rfl HO_3.out); rintro e w16 ⟨v340, rfl, ho0, hb, hkp⟩; refine ⟨_, rfl, ?_⟩; replace BK330 := Aside0.mk (blk_kept (bk_ BK330) hkp (fun hs_ => (fun e_ => (Kd.R_ne HO_3.out BK330.out (by decide)) e_) hs_)); have HO341 := Aside0.mk (Kd.R_mono (ok' := fun k_ => some k_ ≠ (.slice (some ad338) t335.length co14 : Value).ownBlock) ho0 (fun k_ hk_ => Or.elim hk_ (fun hs_ => fun e_ => (((HO_5.out).1 k_ e_.symm)) hs_) (fun hn_ => (Kd.fresh' (Kd.R_lt (kR_ HO_5)) k_ hn_)))); replace HO_5 := Aside0.mk (Kd.R_mono (ok' := fun k_ => some k_ ≠ (v340 : Value).ownBlock) (Kd.R_keptB (HO_5.out) hkp (fun k_ hk_ hs_ => (hk_) hs_)) (fun k_ hk_ => fun e_ => Or.elim (ho0.1 k_ e_.symm) (fun hs_ => hk_.2.1 hs_) (fun hn_ => Nat.not_le.2 hk_.2.2 hn_))); replace HB := Aside0.mk (hb); clear HO_3; (try clear hb); (try clear hkp); (try clear ho0)))
     go_roundg k2
     case measure => have := HK1.out; have := HK2.out; omega
     case rel => exact ⟨(t339), (wrap64 (x6_2 + 1)), rf_, H', ⟨by have := HK1.out; have := HK2.out; omega⟩, ⟨kR_ HO341⟩, ⟨kR_ HO_5⟩, ⟨by (with_reducible repeat (first | refine blk_drewN ?_ _ | refine blk_drew ?_ | refine blk_alloc ?_ _)); exact BK330.out⟩, ⟨bl_⟩⟩

/-! ### spec_PartsOf: function 8 -/
def spec_PartsOf.j0 : Nat → ByteArray → Bool → List (S68) → List (S73) → Option (List ByteArray)
 | 0, _, _, _, _ => none
 | k + 1, x1, x12, x343000, x343001 => if x12 = true then (some (([] : List ByteArray))) else ((spec_l2Words.f k x343000 x343001).bind fun t348 => ((spec_l10Of.f k t348 x1).bind fun t351 => (some t351)))
def spec_PartsOf.f (k : Nat) (l0_0 : List (S68)) (l0_1 : List (S73)) (a1 : ByteArray) : Option (List ByteArray) := (spec_BookOk.f k l0_0 l0_1).bind fun t343 => (if t343 = true then ((spec_l1Word.f k a1).bind fun t344 => (spec_PartsOf.j0 k a1 (!t344) l0_0 l0_1)) else (spec_PartsOf.j0 k a1 true l0_0 l0_1))
theorem spec_PartsOf.mono_l : ∀ k, (∀ y0 y1 y2 y3, LeO (spec_PartsOf.j0 k y0 y1 y2 y3) (spec_PartsOf.j0 (k + 1) y0 y1 y2 y3))
 | 0 => fun _ _ _ _ r h => by simp [spec_PartsOf.j0] at h
 | k + 1 => by
  have ih0 := spec_PartsOf.mono_l k
  · intro y0 y1 y2 y3
    unfold spec_PartsOf.j0
    have m0 := @spec_BookOk.mono
    have m1 := @spec_l10Of.mono
    have m2 := @spec_l1Word.mono
    have m3 := @spec_l2Words.mono
    exact mn_
theorem spec_PartsOf.mono : ∀ a0 a1 a2 k, LeO (spec_PartsOf.f k a0 a1 a2) (spec_PartsOf.f (k + 1) a0 a1 a2) := by
 intro a0 a1 a2 k
 have ih0 := spec_PartsOf.mono_l k
 unfold spec_PartsOf.f
 have m0 := @spec_BookOk.mono
 have m1 := @spec_l10Of.mono
 have m2 := @spec_l1Word.mono
 have m3 := @spec_l2Words.mono
 exact mn_
theorem spec_PartsOf.calls (k : Nat) (A0_0 : Option Addr) (c0_0 : Nat) (l0_0 : List (S68)) (A0_1 : Option Addr) (c0_1 : Nat) (l0_1 : List (S73)) (a1 : ByteArray) (r : List ByteArray) (w : World) (hr0_0 : Kd.C k68 w A0_0 l0_0.length l0_0) (hc0_0 : l0_0.length ≤ c0_0) (hr0_1 : Kd.C k73 w A0_1 l0_1.length l0_1) (hc0_1 : l0_1.length ≤ c0_1) (h : spec_PartsOf.f k l0_0 l0_1 a1 = some r) :
 Calls Try.prog 8 #[.agg #[.slice A0_0 l0_0.length c0_0, .slice A0_1 l0_1.length c0_1], .string a1] w fun e w' => ∃ v0_ : Value, e = .returned (v0_) ∧ Kd.R Kd.string 9 w' w.heap.size (fun _ => True) v0_ r ∧ Below w.heap.size w w' := by
 have hu26 := Try.underlying26
 have HR0_0 := Aside0.mk hr0_0
 have HC0_0 := Aside0.mk hc0_0
 clear hr0_0 hc0_0
 have HR0_1 := Aside0.mk hr0_1
 have HC0_1 := Aside0.mk hc0_1
 clear hr0_1 hc0_1
 have HB := Aside0.mk (Below.refl w.heap.size w)
 unfold spec_PartsOf.f at h; have H := h; clear h
 have HC3 := Aside0.mk H
 clear H
 go_enter Try.func8, Try.ntmps8
 go_upto_region 1 with (first | ((with_reducible refine gate_dst (N := 2) rfl ?_); refine be_ 2 26 #[.slice A0_0 l0_0.length c0_0, .slice A0_1 l0_1.length c0_1] ?_; intro gb342 hg w4 hbox hb; have BK342 := Aside0.mk (hbox); have GW342 := Aside0.mk ((gs_ hg : w.heap.size ≤ gb342)); have GE342 := Aside0.mk ((gs_ hg : w.heap.size ≤ gb342)); replace HB := Aside0.mk (below_step (bl_) hb); clear hb hbox hg))
 (try simp only [Act.put, List.setIfInBounds_toArray, List.set_cons_zero, List.set_cons_succ])
 go_cut [12] (fun v12 wc => ∃ (kq : Nat) (x12_2 : Bool), v12 = .bool x12_2 ∧ Aside0 (spec_PartsOf.j0 kq a1 x12_2 l0_0 l0_1 = some r) ∧ Aside0 (kq ≤ k) ∧ Aside0 (wc.heap[gb342]? = some (.cells #[(.slice A0_0 l0_0.length c0_0), (.slice A0_1 l0_1.length c0_1)] 26 (0, 0))) ∧ Aside0 (Below w.heap.size w wc))
 case first =>
  have H := HC3.out
  clear HC3
  replace H := Option.bind_eq_some_iff.mp H
  obtain ⟨t343, A50, H⟩ := H; try dsimp only at H
  have A5 := Aside0.mk A50
  clear A50
  replace H := iub_ H; rcases H with ⟨rfl, H⟩ | ⟨rfl, H⟩
  · have H' := Aside0.mk H
    clear H
    have hcz10_0 := bc0_ BK342
    have hcz10_1 := bc1_ BK342
    have hfz10_0 := blk_frozen BK342.out 0
    have hfz10_1 := blk_frozen BK342.out 1
    go_wp2_with (first | ((with_reducible refine gate_callee (f := 25) rfl ?_); refine gl_ 6 Try.func25 #[.agg #[.slice A0_0 l0_0.length c0_0, .slice A0_1 l0_1.length c0_1]] ?_; (with_reducible refine (spec_BookOk.calls k _ _ l0_0 _ _ l0_1 false _ ?side1 ?side2 ?side3 ?side4 A5.out).mono ?_); (case side1 => exact cb_ HR0_0); (case side2 => exact HC0_0.out); (case side3 => exact cb_ HR0_1); (case side4 => exact HC0_1.out); rintro e w11 ⟨rfl, hb⟩; refine ⟨_, rfl, ?_⟩; replace BK342 := Aside0.mk (blk_below (bk_ BK342) hb); replace HB := Aside0.mk (below_step (bl_) hb); (try clear hb); (try clear hb2); (try clear hk); (try clear hi)))
    go_meet
    case rel => exact ⟨_, (true), rf_, H', ⟨by first | omega | exact Nat.le_refl _⟩, ⟨by (with_reducible repeat (first | refine blk_drewN ?_ _ | refine blk_drew ?_ | refine blk_alloc ?_ _)); exact BK342.out⟩, ⟨bl_⟩⟩
  replace H := Option.bind_eq_some_iff.mp H
  obtain ⟨t344, A70, H⟩ := H; try dsimp only at H
  have A7 := Aside0.mk A70
  clear A70
  have H' := Aside0.mk H; clear H
  have hcz8_0 := bc0_ BK342
  have hcz8_1 := bc1_ BK342
  have hfz8_0 := blk_frozen BK342.out 0
  have hfz8_1 := blk_frozen BK342.out 1
  go_wp2_with (first | ((with_reducible refine gate_callee (f := 25) rfl ?_); refine gl_ 6 Try.func25 #[.agg #[.slice A0_0 l0_0.length c0_0, .slice A0_1 l0_1.length c0_1]] ?_; (with_reducible refine (spec_BookOk.calls k _ _ l0_0 _ _ l0_1 true _ ?side1 ?side2 ?side3 ?side4 A5.out).mono ?_); (case side1 => exact cb_ HR0_0); (case side2 => exact HC0_0.out); (case side3 => exact cb_ HR0_1); (case side4 => exact HC0_1.out); rintro e w9 ⟨rfl, hb⟩; refine ⟨_, rfl, ?_⟩; replace BK342 := Aside0.mk (blk_below (bk_ BK342) hb); replace HB := Aside0.mk (below_step (bl_) hb); (try clear hb); (try clear hb2); (try clear hk); (try clear hi)) | (go_at_call 26; (with_reducible refine (spec_l1Word.calls k a1 t344 _ A7.out).mono ?_); rintro e w' ⟨rfl, ⟨nd, rfl⟩⟩))
  go_meet
  case rel => exact ⟨_, (!t344), rf_, H', ⟨by first | omega | exact Nat.le_refl _⟩, ⟨by (with_reducible repeat (first | refine blk_drewN ?_ _ | refine blk_drew ?_ | refine blk_alloc ?_ _)); exact BK342.out⟩, ⟨bl_⟩⟩
 case rest =>
  clear HC3
  (try clear c2);(try clear p2);(try clear c6);(try clear c8);(try clear hcz10_0);(try clear hcz10_1);(try clear hcz8_0);(try clear hcz8_1);(try clear hfz10_0);(try clear hfz10_1);(try clear hfz8_0);(try clear hfz8_1)
  obtain ⟨kq, x12_2, rfl, HA, HJ2, BK342, HB⟩ := hcut
  cases kq with
  | zero => exact absurd HA.out (by simp [spec_PartsOf.j0])
  | succ kj2 =>
   have H := HA.out
   clear HA
   simp only [spec_PartsOf.j0] at H
   replace H := itb_ H; rcases H with ⟨rfl, H⟩ | ⟨rfl, H⟩
   · obtain ⟨y345, hy_⟩ : ∃ y_ : List ByteArray, y_ = (([] : List ByteArray)) := ⟨_, rfl⟩
     replace H : (some y345) = some r := ry_
     have Ny345 := Aside0.mk hy_; clear hy_
     obtain rfl := Option.some.inj H
     go_wp2_with (first | ((with_reducible refine gate_dst (N := 13) rfl ?_); refine rl_ Kd.string 9 13 ([] : List ByteArray) [] ?_; intro v346 w13 ho14 hb hg_ hnew_; clear hg_ hnew_; (first | rw [← Ny345.out] at ho14 | (simp only [Int.reduceToNat, Int.toNat_natCast] at ho14; rw [← Ny345.out] at ho14)); have HO347 := Aside0.mk (Kd.R_lower ho14 (below_size (bl_))); replace BK342 := Aside0.mk (blk_below (bk_ BK342) hb); replace HB := Aside0.mk (below_step (bl_) hb); clear hb ho14))
     go_ret
     exact ⟨_, rfe_, kR_ HO347, bl_⟩
   replace H := Option.bind_eq_some_iff.mp H
   obtain ⟨t348, A150, H⟩ := H; try dsimp only at H
   have A15 := Aside0.mk A150
   clear A150
   replace H := Option.bind_eq_some_iff.mp H
   obtain ⟨t351, A160, H⟩ := H; try dsimp only at H
   have A16 := Aside0.mk A160
   clear A160
   obtain rfl := Option.some.inj H
   have hcz17_0 := bc0_ BK342
   have hcz17_1 := bc1_ BK342
   have hfz17_0 := blk_frozen BK342.out 0
   have hfz17_1 := blk_frozen BK342.out 1
   go_wp2_with (first | ((with_reducible refine gate_callee (f := 28) rfl ?_); refine gl_ 15 Try.func28 #[.agg #[.slice A0_0 l0_0.length c0_0, .slice A0_1 l0_1.length c0_1]] ?_; (with_reducible refine (spec_l2Words.calls kj2 _ _ l0_0 _ _ l0_1 t348 _ ?side1 ?side2 ?side3 ?side4 A15.out).mono ?_); (case side1 => exact cb_ HR0_0); (case side2 => exact HC0_0.out); (case side3 => exact cb_ HR0_1); (case side4 => exact HC0_1.out); rintro e w18 ⟨v349, rfl, ho0, hb⟩; refine ⟨_, rfl, ?_⟩; have HO350 := Aside0.mk (Kd.R_lower ho0 (below_size (bl_))); replace BK342 := Aside0.mk (blk_below (bk_ BK342) hb); replace HB := Aside0.mk (below_step (bl_) hb); (try clear hb); (try clear hb2); (try clear hk); (try clear hi); (try clear ho0); obtain ⟨Ao19, co19, eo19⟩ := Kd.R_slice HO350.out; subst eo19) | ((with_reducible refine gate_callee (f := 27) rfl ?_); refine gl_ 17 Try.func27 #[.slice Ao19 t348.length co19, .string a1] ?_; (with_reducible refine (spec_l10Of.calls kj2 _ _ t348 a1 t351 _ ?side1 ?side2 A16.out).mono ?_); (case side1 => exact cr_ HO350); (case side2 => exact (Kd.R_reads' HO350.out).2.1); rintro e w20 ⟨v352, rfl, ho0, hb⟩; refine ⟨_, rfl, ?_⟩; have HO353 := Aside0.mk (Kd.R_lower (Kd.R_new' ho0 (Kd.R_lt (kR_ HO350))) (below_size (bl_))); replace HO350 := Aside0.mk (Kd.R_elder' (kR_ HO350) (Kd.R_base ho0) hb); replace BK342 := Aside0.mk (blk_below (bk_ BK342) hb); replace HB := Aside0.mk (below_step (bl_) hb); (try clear hb); (try clear hb2); (try clear hk); (try clear hi); (try clear ho0)))
   go_ret
   exact ⟨_, rfe_, by (with_reducible repeat (first | apply Kd.R_alloc | apply Kd.R_drewN | apply Kd.R_drew)); exact Kd.R_mono HO353.out (fun _ hk => trivial), bl_⟩

/-! ### laws_szAffix: function 56 -/
def laws_szAffix.f (a0_0 : ByteArray) (a0_1 : Bool) (a0_2 : ByteArray) (a0_3 : ByteArray) (a0_4 : ByteArray) (a1 : Int) : Option (Int) := if (wrap64 (a1 - (a0_0.size : Int))) < 0 then (some (-1)) else (if (wrap64 ((wrap64 (a1 - (a0_0.size : Int))) - (a0_2.size : Int))) < 0 then (some (-1)) else (if (wrap64 ((wrap64 ((wrap64 (a1 - (a0_0.size : Int))) - (a0_2.size : Int))) - (a0_3.size : Int))) < 0 then (some (-1)) else (if (wrap64 ((wrap64 ((wrap64 ((wrap64 (a1 - (a0_0.size : Int))) - (a0_2.size : Int))) - (a0_3.size : Int))) - (a0_4.size : Int))) < 0 then (some (-1)) else (some (wrap64 ((wrap64 ((wrap64 ((wrap64 (a1 - (a0_0.size : Int))) - (a0_2.size : Int))) - (a0_3.size : Int))) - (a0_4.size : Int)))))))
theorem laws_szAffix.calls (a0_0 : ByteArray) (a0_1 : Bool) (a0_2 : ByteArray) (a0_3 : ByteArray) (a0_4 : ByteArray) (a1 : Int) (r : Int) (w : World) (h : laws_szAffix.f a0_0 a0_1 a0_2 a0_3 a0_4 a1 = some r) :
 Calls Try.prog 56 #[.agg #[.string a0_0, .bool a0_1, .string a0_2, .string a0_3, .string a0_4], .int .i64 a1] w fun e w' => e = .returned (.int .i64 r) ∧ Below w.heap.size w w' := by
 have hu83 := Try.underlying83
 have HB := Aside0.mk (Below.refl w.heap.size w)
 unfold laws_szAffix.f at h; have H := h; clear h
 replace H := itdd_ H; rcases H with ⟨c3b0, H⟩ | ⟨c3b0, H⟩
 · obtain rfl := Option.some.inj H
   go_enter Try.func56, Try.ntmps56
   go_wp2_with (first | ((with_reducible refine gate_dst (N := 2) rfl ?_); refine be_ 2 83 #[.string a0_0, .bool a0_1, .string a0_2, .string a0_3, .string a0_4] ?_; intro gb354 hg w4 hbox hb; have BK354 := Aside0.mk (hbox); have GW354 := Aside0.mk ((gs_ hg : w.heap.size ≤ gb354)); have GE354 := Aside0.mk ((gs_ hg : w.heap.size ≤ gb354)); replace HB := Aside0.mk (below_step (bl_) hb); clear hb hbox hg; have hcz5_0 := bc0_ BK354; have hcz5_1 := bc1_ BK354; have hcz5_2 := bc2_ BK354; have hcz5_3 := bc3_ BK354; have hcz5_4 := bc4_ BK354; have hfz5_0 := blk_frozen BK354.out 0; have hfz5_1 := blk_frozen BK354.out 1; have hfz5_2 := blk_frozen BK354.out 2; have hfz5_3 := blk_frozen BK354.out 3; have hfz5_4 := blk_frozen BK354.out 4))
   go_ret
   exact ⟨rfe_, bl_⟩
 replace H := itdd_ H; rcases H with ⟨c6b0, H⟩ | ⟨c6b0, H⟩
 · obtain rfl := Option.some.inj H
   go_enter Try.func56, Try.ntmps56
   go_wp2_with (first | ((with_reducible refine gate_dst (N := 2) rfl ?_); refine be_ 2 83 #[.string a0_0, .bool a0_1, .string a0_2, .string a0_3, .string a0_4] ?_; intro gb354 hg w7 hbox hb; have BK354 := Aside0.mk (hbox); have GW354 := Aside0.mk ((gs_ hg : w.heap.size ≤ gb354)); have GE354 := Aside0.mk ((gs_ hg : w.heap.size ≤ gb354)); replace HB := Aside0.mk (below_step (bl_) hb); clear hb hbox hg; have hcz8_0 := bc0_ BK354; have hcz8_1 := bc1_ BK354; have hcz8_2 := bc2_ BK354; have hcz8_3 := bc3_ BK354; have hcz8_4 := bc4_ BK354; have hfz8_0 := blk_frozen BK354.out 0; have hfz8_1 := blk_frozen BK354.out 1; have hfz8_2 := blk_frozen BK354.out 2; have hfz8_3 := blk_frozen BK354.out 3; have hfz8_4 := blk_frozen BK354.out 4))
   go_ret
   exact ⟨rfe_, bl_⟩
 replace H := itdd_ H; rcases H with ⟨c9b0, H⟩ | ⟨c9b0, H⟩
 · obtain rfl := Option.some.inj H
   go_enter Try.func56, Try.ntmps56
   go_wp2_with (first | ((with_reducible refine gate_dst (N := 2) rfl ?_); refine be_ 2 83 #[.string a0_0, .bool a0_1, .string a0_2, .string a0_3, .string a0_4] ?_; intro gb354 hg w10 hbox hb; have BK354 := Aside0.mk (hbox); have GW354 := Aside0.mk ((gs_ hg : w.heap.size ≤ gb354)); have GE354 := Aside0.mk ((gs_ hg : w.heap.size ≤ gb354)); replace HB := Aside0.mk (below_step (bl_) hb); clear hb hbox hg; have hcz11_0 := bc0_ BK354; have hcz11_1 := bc1_ BK354; have hcz11_2 := bc2_ BK354; have hcz11_3 := bc3_ BK354; have hcz11_4 := bc4_ BK354; have hfz11_0 := blk_frozen BK354.out 0; have hfz11_1 := blk_frozen BK354.out 1; have hfz11_2 := blk_frozen BK354.out 2; have hfz11_3 := blk_frozen BK354.out 3; have hfz11_4 := blk_frozen BK354.out 4))
   go_ret
   exact ⟨rfe_, bl_⟩
 replace H := itdd_ H; rcases H with ⟨c12b0, H⟩ | ⟨c12b0, H⟩
 · obtain rfl := Option.some.inj H
   go_enter Try.func56, Try.ntmps56
   go_wp2_with (first | ((with_reducible refine gate_dst (N := 2) rfl ?_); refine be_ 2 83 #[.string a0_0, .bool a0_1, .string a0_2, .string a0_3, .string a0_4] ?_; intro gb354 hg w13 hbox hb; have BK354 := Aside0.mk (hbox); have GW354 := Aside0.mk ((gs_ hg : w.heap.size ≤ gb354)); have GE354 := Aside0.mk ((gs_ hg : w.heap.size ≤ gb354)); replace HB := Aside0.mk (below_step (bl_) hb); clear hb hbox hg; have hcz14_0 := bc0_ BK354; have hcz14_1 := bc1_ BK354; have hcz14_2 := bc2_ BK354; have hcz14_3 := bc3_ BK354; have hcz14_4 := bc4_ BK354; have hfz14_0 := blk_frozen BK354.out 0; have hfz14_1 := blk_frozen BK354.out 1; have hfz14_2 := blk_frozen BK354.out 2; have hfz14_3 := blk_frozen BK354.out 3; have hfz14_4 := blk_frozen BK354.out 4))
   go_ret
   exact ⟨rfe_, bl_⟩
 obtain rfl := Option.some.inj H
 go_enter Try.func56, Try.ntmps56
 go_wp2_with (first | ((with_reducible refine gate_dst (N := 2) rfl ?_); refine be_ 2 83 #[.string a0_0, .bool a0_1, .string a0_2, .string a0_3, .string a0_4] ?_; intro gb354 hg w15 hbox hb; have BK354 := Aside0.mk (hbox); have GW354 := Aside0.mk ((gs_ hg : w.heap.size ≤ gb354)); have GE354 := Aside0.mk ((gs_ hg : w.heap.size ≤ gb354)); replace HB := Aside0.mk (below_step (bl_) hb); clear hb hbox hg; have hcz16_0 := bc0_ BK354; have hcz16_1 := bc1_ BK354; have hcz16_2 := bc2_ BK354; have hcz16_3 := bc3_ BK354; have hcz16_4 := bc4_ BK354; have hfz16_0 := blk_frozen BK354.out 0; have hfz16_1 := blk_frozen BK354.out 1; have hfz16_2 := blk_frozen BK354.out 2; have hfz16_3 := blk_frozen BK354.out 3; have hfz16_4 := blk_frozen BK354.out 4))
 go_ret
 exact ⟨rfe_, bl_⟩

end Go.Proofs.Ytbopiacjioedeaa.P
