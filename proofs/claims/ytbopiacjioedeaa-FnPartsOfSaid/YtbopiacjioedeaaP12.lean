-- Written by a program of this session (wip/gen/gen.py) out of Lean's print of the loaded program; Lean checks it.
import Derived.Test.YtbopiacjioedeaaP0
import Derived.Test.YtbopiacjioedeaaSq2
import Derived.Test.YtbopiacjioedeaaExtPut
import Derived.Test.YtbopiacjioedeaaP2
import Derived.Test.YtbopiacjioedeaaP5
import Derived.Test.YtbopiacjioedeaaP9
import Derived.Test.YtbopiacjioedeaaP11
namespace Go.Proofs.Ytbopiacjioedeaa.P
open Go.RowKit Go.Proofs.YtbopiacjioedeaaW.PrintWords Go.Proofs.YtbopiacjioedeaaW.PrintLast Go.Proofs.YtbopiacjioedeaaW.PrintMore
attribute [local go_sem] max2_int min2_int max_two min_two max_three min_three max_four min_four IntKind.wrap_u8 IntKind.wrap_u32 w64_256 w64_u32
set_option maxHeartbeats 8000000
set_option maxRecDepth 100000
set_option linter.unusedVariables false
set_option linter.unusedSimpArgs false

/-! ### spec_l2Forms: function 53 -/
def spec_l2Forms.f (k : Nat) (l0 : List (S68)) (a1_0 : ByteArray) (a1_1 : ByteArray) : Option (List ByteArray) := (spec_l2One.f k l0 a1_1 false (([a1_0] : List ByteArray))).bind fun t315 => ((spec_l2One.f k l0 a1_1 true t315).bind fun t318 => (some t318))
theorem spec_l2Forms.mono : ∀ a0 a1 a2 k, LeO (spec_l2Forms.f k a0 a1 a2) (spec_l2Forms.f (k + 1) a0 a1 a2) := by
 intro a0 a1 a2 k
 unfold spec_l2Forms.f
 have m0 := @spec_l2One.mono
 exact mn_
def spec_l2Forms.T1 : Bool × List (List Nat × List Nat) := (true, [([], []), ([], []), ([1], [1]), ([], []), ([], []), ([4], [4]), ([], []), ([6], [6]), ([7], [7]), ([3, 5, 8], [3, 5, 8]), ([0, 2, 9, 9], [0, 2, 9]), ([10, 10, 0, 1, 2, 3, 4, 5, 6, 7, 8, 9, 10], [10])])
def spec_l2Forms.B1 : List Nat := [0, 0, 2, 0, 0, 16, 0, 64, 192, 504, 1023, 2047]
theorem spec_l2Forms.tab1 : rtab .any (opsOf Try.f53 1) = spec_l2Forms.T1 := by kernel_rfl
theorem spec_l2Forms.bits1 : waitsOk spec_l2Forms.T1.2 spec_l2Forms.B1 = true := by kernel_rfl
theorem spec_l2Forms.calls (k : Nat) (A0 : Option Addr) (c0 : Nat) (l0 : List (S68)) (a1_0 : ByteArray) (a1_1 : ByteArray) (r : List ByteArray) (w : World) (hr0 : Kd.C k68 w A0 l0.length l0) (hc0 : l0.length ≤ c0) (h : spec_l2Forms.f k l0 a1_0 a1_1 = some r) :
 Calls Try.prog 53 #[.slice A0 l0.length c0, .agg #[.string a1_0, .string a1_1]] w fun e w' => ∃ v0_ : Value, e = .returned (v0_) ∧ Kd.R Kd.string 9 w' w.heap.size (fun _ => True) v0_ r ∧ Below w.heap.size w w' := by
 have hu73 := Try.underlying73
 have HR0 := Aside0.mk hr0
 have HC0 := Aside0.mk hc0
 clear hr0 hc0
 have HB := Aside0.mk (Below.refl w.heap.size w)
 unfold spec_l2Forms.f at h; have H := h; clear h
 obtain ⟨y312, hy_⟩ : ∃ y_ : List ByteArray, y_ = (([a1_0] : List ByteArray)) := ⟨_, rfl⟩
 replace H : ((spec_l2One.f k l0 a1_1 false y312).bind fun t315 => ((spec_l2One.f k l0 a1_1 true t315).bind fun t318 => (some t318))) = some r := ry_
 have Ny312 := Aside0.mk hy_; clear hy_
 replace H := Option.bind_eq_some_iff.mp H
 obtain ⟨t315, A30, H⟩ := H; try dsimp only at H
 have A3 := Aside0.mk A30
 clear A30
 replace H := Option.bind_eq_some_iff.mp H
 obtain ⟨t318, A40, H⟩ := H; try dsimp only at H
 have A4 := Aside0.mk A40
 clear A40
 obtain rfl := Option.some.inj H
 go_enter Try.func53, Try.ntmps53
 try go_wp2_with (first | ((with_reducible refine gate_dst (N := 3) rfl ?_); refine be_ 3 73 #[.string a1_0, .string a1_1] ?_; intro gb311 hg w5 hbox hb; have BK311 := Aside0.mk (hbox); have GW311 := Aside0.mk ((gs_ hg : w.heap.size ≤ gb311)); have GE311 := Aside0.mk ((gs_ hg : w.heap.size ≤ gb311)); replace HB := Aside0.mk (below_step (bl_) hb); clear hb hbox hg))
 replace BK311 := Aside0.mk (blk_drew BK311.out)
 replace HB := Aside0.mk (below_drew1 HB.out)
 refine start_ (n := 12) (S := fun w' => w'.cell? ⟨gb311, 0, none⟩ = some (.string a1_0) ∧ w'.cell? ⟨gb311, 1, none⟩ = some (.string a1_1)) (ds := []) (bm 12 0) (by kernel_rfl) rfl rfl ⟨(blk_cell BK311.out 0).trans rfl, (blk_cell BK311.out 1).trans rfl⟩ (fun hHeld => ?_); refine with_tabW spec_l2Forms.tab1 spec_l2Forms.bits1 (fun HT_ HW_ => ?_)
 generalize w5.drew = w6 at BK311 HB hHeld ⊢
 refine sp_ 0 (some 5) (bm 12 1) HT_ (h := ?_)
 refine sp_ 1 (some 6) (bm 12 3) HT_ (h := ?_)
 refine sp_ 3 (some 8) (bm 12 11) HT_ (h := ?_)
 refine sp_ 4 (some 9) (bm 12 27) HT_ (h := ?_)
 refine sp_ 6 (some 11) (bm 12 91) HT_ (h := ?_)
 refine sr_ 2 (some 7) (bm 12 95) HT_ HW_ hHeld (h := ?_)
 refine sr_ 5 (some 10) (bm 12 127) HT_ HW_ hHeld (h := ?_)
 refine sr_ 7 (some 12) (bm 12 255) HT_ HW_ hHeld (h := ?_)
 refine sn_ 8 (some 13) (bm 12 511) HT_ (fun K hK => ?_)
 refine Kd.R_lit_step Kd.string _ 9 ?hg (N := 13) ?hd (xs := ([a1_0] : List ByteArray)) (inner := [.string a1_0]) (ok := fun _ => True) (okp := fun _ => True) ?hr ?hp (fun _ hk => hk) trivial (Below.refl _ _) (Nat.le_refl _) (by simp) ?_; (case hd => rfl); (case hg => rfl); (case hr => first | (go_simp; done) | (go_simp; rfl)); (case hp => exact (Reps.one (show Kd.M Kd.string _ _ _ a1_0 [.string a1_0] from rfl) (Reps.none _ _)))
 intro v313 w7 ho8 hb hg_ hnew_
 clear hg_ hnew_
 (first | rw [← Ny312.out] at ho8 | (simp only [Int.reduceToNat] at ho8; rw [← Ny312.out] at ho8))
 have HO314 := Aside0.mk (Kd.R_lower ho8 (below_size (bl_)))
 replace BK311 := Aside0.mk (blk_below (bk_ BK311) hb)
 replace HB := Aside0.mk (below_step (bl_) hb)
 clear hb ho8
 obtain ⟨Ao9, co9, eo9⟩ := Kd.R_slice HO314.out
 (first | subst eo9 | (injection eo9 with f1_ f2_ f3_; have f4_ := f1_.symm; have f5_ := f3_.symm; clear f1_ f2_ f3_; subst f4_; subst f5_))
 refine hK.out _ _ ⟨(blk_cell BK311.out 0).trans rfl, (blk_cell BK311.out 1).trans rfl⟩ (fun hHeld => ?_)
 clear hK K
 refine nm_ ?_
 refine sn_ 9 (some 14) (bm 12 1023) HT_ (fun K hK => ?_)
 refine goes_ Try.func76 (by kernel_rfl) rfl #[.slice A0 l0.length c0, .string a1_1, .bool false, .slice Ao9 y312.length co9] (by rfl) rfl rfl (by (try simp only [List.map_toArray, List.map_cons, List.map_nil]); first | done | rfl | (simp only [List.length_drop, List.length_take]; rfl)) ?_
 with_reducible refine (spec_l2One.calls k _ _ l0 a1_1 false _ _ y312 t315 _ ?side1 ?side2 ?side3 ?side4 A3.out).mono ?_
 (case side1 => exact cb_ HR0)
 (case side2 => exact HC0.out)
 (case side3 => exact cr_ HO314)
 (case side4 => exact (Kd.R_reads' HO314.out).2.1)
 rintro e w10 ⟨v316, rfl, ho0, hb⟩
 refine ⟨_, rfl, ?_⟩
 have HO317 := Aside0.mk (Kd.R_lower (Kd.R_new' ho0 (Kd.R_lt (kR_ HO314))) (below_size (bl_)))
 replace HO314 := Aside0.mk (Kd.R_elder' (kR_ HO314) (Kd.R_base ho0) hb)
 replace BK311 := Aside0.mk (blk_below (bk_ BK311) hb)
 replace HB := Aside0.mk (below_step (bl_) hb)
 (try clear hb)
 (try clear hb2)
 (try clear hk)
 (try clear hi)
 (try clear ho0)
 obtain ⟨Ao11, co11, eo11⟩ := Kd.R_slice HO317.out
 (first | subst eo11 | (injection eo11 with f1_ f2_ f3_; have f4_ := f1_.symm; have f5_ := f3_.symm; clear f1_ f2_ f3_; subst f4_; subst f5_))
 refine hK.out _ _ ⟨(blk_cell BK311.out 0).trans rfl, (blk_cell BK311.out 1).trans rfl⟩ (fun hHeld => ?_)
 clear hK K
 refine nm_ ?_
 refine sn_ 10 (some 15) (bm 12 2047) HT_ (fun K hK => ?_)
 refine goes_ Try.func76 (by kernel_rfl) rfl #[.slice A0 l0.length c0, .string a1_1, .bool true, .slice Ao11 t315.length co11] (by rfl) rfl rfl (by (try simp only [List.map_toArray, List.map_cons, List.map_nil]); first | done | rfl | (simp only [List.length_drop, List.length_take]; rfl)) ?_
 with_reducible refine (spec_l2One.calls k _ _ l0 a1_1 true _ _ t315 t318 _ ?side1 ?side2 ?side3 ?side4 A4.out).mono ?_
 (case side1 => exact cb_ HR0)
 (case side2 => exact HC0.out)
 (case side3 => exact cr_ HO317)
 (case side4 => exact (Kd.R_reads' HO317.out).2.1)
 rintro e w12 ⟨v319, rfl, ho0, hb⟩
 refine ⟨_, rfl, ?_⟩
 have HO320 := Aside0.mk (Kd.R_lower (Kd.R_new' (Kd.R_new' ho0 (Kd.R_lt (kR_ HO314))) (Kd.R_lt (kR_ HO317))) (below_size (bl_)))
 replace HO314 := Aside0.mk (Kd.R_elder' (kR_ HO314) (Kd.R_base ho0) hb)
 replace HO317 := Aside0.mk (Kd.R_elder' (kR_ HO317) (Kd.R_base ho0) hb)
 replace BK311 := Aside0.mk (blk_below (bk_ BK311) hb)
 replace HB := Aside0.mk (below_step (bl_) hb)
 (try clear hb)
 (try clear hb2)
 (try clear hk)
 (try clear hi)
 (try clear ho0)
 refine hK.out _ _ ⟨(blk_cell BK311.out 0).trans rfl, (blk_cell BK311.out 1).trans rfl⟩ (fun hHeld => ?_)
 clear hK K
 refine nm_ ?_
 refine sp_ 11 (some 4) (bm 12 4095) HT_ (h := ?_)
 refine done_ (done_of HT_.out (by kernel_rfl)) ?_
 try go_wp2
 go_ret
 exact ⟨_, rfe_, by (with_reducible repeat (first | apply Kd.R_alloc | apply Kd.R_drewN | apply Kd.R_drew)); exact Kd.R_mono HO320.out (fun _ hk => trivial), bl_⟩

/-! ### spec_l2Words: function 28 -/
mutual
def spec_l2Words.l0 : Nat → List ByteArray → Int → List (S68) → List (S73) → Option (List ByteArray)
 | 0, _, _, _, _ => none
 | k + 1, x3, x4, x322000, x322001 => if x4 < (x322001.length : Int) then (if 0 ≤ x4 then ((spec_l2Forms.f k x322000 ((rd_T73 x322001 x4).f0) ((rd_T73 x322001 x4).f1)).bind fun t326 => (spec_l2Words.l1 k x3 x4 t326 0 x322000 x322001)) else (none)) else (some x3)
def spec_l2Words.l1 : Nat → List ByteArray → Int → List ByteArray → Int → List (S68) → List (S73) → Option (List ByteArray)
 | 0, _, _, _, _, _, _ => none
 | k + 1, x3, x4, x5, x6, x322000, x322001 => if x6 < (x5.length : Int) then (if 0 ≤ x6 then ((spec_l1Put.f k x3 (rdOf ByteArray.empty x5 x6)).bind fun t330 => (spec_l2Words.l1 k t330 x4 x5 (wrap64 (x6 + 1)) x322000 x322001)) else (none)) else (spec_l2Words.l0 k x3 (wrap64 (x4 + 1)) x322000 x322001)
end
def spec_l2Words.f (k : Nat) (l0_0 : List (S68)) (l0_1 : List (S73)) : Option (List ByteArray) := spec_l2Words.l0 k (([] : List ByteArray)) 0 l0_0 l0_1
theorem spec_l2Words.mono_l : ∀ k, (∀ y0 y1 y2 y3, LeO (spec_l2Words.l0 k y0 y1 y2 y3) (spec_l2Words.l0 (k + 1) y0 y1 y2 y3)) ∧ (∀ y0 y1 y2 y3 y4 y5, LeO (spec_l2Words.l1 k y0 y1 y2 y3 y4 y5) (spec_l2Words.l1 (k + 1) y0 y1 y2 y3 y4 y5))
 | 0 => ⟨fun _ _ _ _ r h => by simp [spec_l2Words.l0] at h, fun _ _ _ _ _ _ r h => by simp [spec_l2Words.l1] at h⟩
 | k + 1 => by
  obtain ⟨ih0, ih1⟩ := spec_l2Words.mono_l k
  refine ⟨?_, ?_⟩
  · intro y0 y1 y2 y3
    unfold spec_l2Words.l0
    have m0 := @spec_l1Put.mono
    have m1 := @spec_l2Forms.mono
    exact mn_
  · intro y0 y1 y2 y3 y4 y5
    unfold spec_l2Words.l1
    have m0 := @spec_l1Put.mono
    have m1 := @spec_l2Forms.mono
    exact mn_
theorem spec_l2Words.mono : ∀ a0 a1 k, LeO (spec_l2Words.f k a0 a1) (spec_l2Words.f (k + 1) a0 a1) := by
 intro a0 a1 k
 obtain ⟨ih0, ih1⟩ := spec_l2Words.mono_l k
 unfold spec_l2Words.f
 have m0 := @spec_l1Put.mono
 have m1 := @spec_l2Forms.mono
 exact mn_
def spec_l2Words.T5 : Bool × List (List Nat × List Nat) := (true, [([], []), ([0], [0]), ([], []), ([2], [2]), ([], []), ([3, 4], [3, 4]), ([5], [5]), ([1, 6], [1, 6]), ([7, 7, 0, 1, 2, 3, 4, 5, 6, 7], [7])])
def spec_l2Words.B5 : List Nat := [0, 1, 0, 4, 0, 28, 60, 127, 255]
theorem spec_l2Words.tab5 : rtab .any (opsOf Try.f28 5) = spec_l2Words.T5 := by kernel_rfl
theorem spec_l2Words.bits5 : waitsOk spec_l2Words.T5.2 spec_l2Words.B5 = true := by kernel_rfl
theorem spec_l2Words.calls (k : Nat) (A0_0 : Option Addr) (c0_0 : Nat) (l0_0 : List (S68)) (A0_1 : Option Addr) (c0_1 : Nat) (l0_1 : List (S73)) (r : List ByteArray) (w : World) (hr0_0 : Kd.C k68 w A0_0 l0_0.length l0_0) (hc0_0 : l0_0.length ≤ c0_0) (hr0_1 : Kd.C k73 w A0_1 l0_1.length l0_1) (hc0_1 : l0_1.length ≤ c0_1) (h : spec_l2Words.f k l0_0 l0_1 = some r) :
 Calls Try.prog 28 #[.agg #[.slice A0_0 l0_0.length c0_0, .slice A0_1 l0_1.length c0_1]] w fun e w' => ∃ v0_ : Value, e = .returned (v0_) ∧ Kd.R Kd.string 9 w' w.heap.size (fun _ => True) v0_ r ∧ Below w.heap.size w w' := by
 have hu26 := Try.underlying26
 have hu73 := Try.underlying73
 have HR0_0 := Aside0.mk hr0_0
 have HC0_0 := Aside0.mk hc0_0
 clear hr0_0 hc0_0
 have HR0_1 := Aside0.mk hr0_1
 have HC0_1 := Aside0.mk hc0_1
 clear hr0_1 hc0_1
 have HB := Aside0.mk (Below.refl w.heap.size w)
 unfold spec_l2Words.f at h; have H := h; clear h
 obtain ⟨y322, hy_⟩ : ∃ y_ : List ByteArray, y_ = (([] : List ByteArray)) := ⟨_, rfl⟩
 replace H : (spec_l2Words.l0 k y322 0 l0_0 l0_1) = some r := ry_
 have Ny322 := Aside0.mk hy_; clear hy_
 have H' := Aside0.mk H; clear H
 go_enter Try.func28, Try.ntmps28
 go_wp2_with (first | ((with_reducible refine gate_dst (N := 1) rfl ?_); refine be_ 1 26 #[.slice A0_0 l0_0.length c0_0, .slice A0_1 l0_1.length c0_1] ?_; intro gb321 hg w2 hbox hb; have BK321 := Aside0.mk (hbox); have GW321 := Aside0.mk ((gs_ hg : w.heap.size ≤ gb321)); have GE321 := Aside0.mk ((gs_ hg : w.heap.size ≤ gb321)); replace HB := Aside0.mk (below_step (bl_) hb); clear hb hbox hg) | ((with_reducible refine gate_dst (N := 7) rfl ?_); refine rl_ Kd.string 9 7 ([] : List ByteArray) [] ?_; intro v323 w3 ho4 hb hg_ hnew_; clear hg_ hnew_; (first | rw [← Ny322.out] at ho4 | (simp only [Int.reduceToNat] at ho4; rw [← Ny322.out] at ho4)); have HO324 := Aside0.mk (Kd.R_lower ho4 (below_size (bl_))); replace BK321 := Aside0.mk (blk_below (bk_ BK321) hb); replace HB := Aside0.mk (below_step (bl_) hb); clear hb ho4))
 go_loopg [3, 4] k (fun kq v3 v4 w' => ∃ (x3_1 : List ByteArray) (x4_1 : Int), v4 = .int .i64 x4_1 ∧ Aside0 (spec_l2Words.l0 kq x3_1 x4_1 l0_0 l0_1 = some r) ∧ Aside0 (kq ≤ k) ∧ Aside0 (Kd.R Kd.string 9 w' w.heap.size (fun _ => True) v3 x3_1) ∧ Aside0 (w'.heap[gb321]? = some (.cells #[(.slice A0_0 l0_0.length c0_0), (.slice A0_1 l0_1.length c0_1)] 26 (0, 0))) ∧ Aside0 (Below w.heap.size w w'))
 case atStart => exact ⟨(y322), (0), rf_, H', ⟨Nat.le_refl _⟩, ⟨kR_ HO324⟩, ⟨by (with_reducible repeat (first | refine blk_drewN ?_ _ | refine blk_drew ?_ | refine blk_alloc ?_ _)); exact BK321.out⟩, ⟨bl_⟩⟩
 case round =>
  clear H'
  (try clear c2);(try clear p2)
  obtain ⟨x3_1, x4_1, rfl, HA, HK1, HO_3, BK321, HB⟩ := hrel
  cases gk with
  | zero => exact absurd HA.out (by simp [spec_l2Words.l0])
  | succ k1 =>
   have H := HA.out
   clear HA
   simp only [spec_l2Words.l0] at H
   replace H := iucd_ H; rcases H with ⟨c5b0, H⟩ | ⟨c5, H⟩
   · obtain rfl := Option.some.inj H
     have hcz18_0 := bc0_ BK321
     have hcz18_1 := bc1_ BK321
     have hfz18_0 := blk_frozen BK321.out 0
     have hfz18_1 := blk_frozen BK321.out 1
     go_wp2
     go_ret
     exact ⟨_, rfe_, kR_ HO_3, bl_⟩
   have c5b0 : decide (x4_1 < (l0_1.length : Int)) = true := decide_eq_true c5
   clear c5
   replace H := inc_ H; obtain ⟨c6, H⟩ := H
   have c6b0 : decide (0 ≤ x4_1) = true := decide_eq_true c6
   clear c6
   replace H := Option.bind_eq_some_iff.mp H
   obtain ⟨t326, A70, H⟩ := H; try dsimp only at H
   have A7 := Aside0.mk A70
   clear A70
   have H' := Aside0.mk H; clear H
   have hcz8_0 := bc0_ BK321
   have hcz8_1 := bc1_ BK321
   have hfz8_0 := blk_frozen BK321.out 0
   have hfz8_1 := blk_frozen BK321.out 1
   try go_wp2
   replace HO_3 := Aside0.mk (Kd.R_drew HO_3.out)
   replace BK321 := Aside0.mk (blk_drew BK321.out)
   replace HB := Aside0.mk (below_drew1 HB.out)
   have p325 : 0 ≤ (x4_1 : Int) := od_
   have q325 : x4_1 < (l0_1.length : Int) := od_
   obtain ⟨ad325, e325, hx325_0, hx325_1⟩ := at_T73 HR0_1.out x4_1 p325 q325
   have hw325_1 := hx325_1
   have hw325_0 := hx325_0
   cases e325
   replace hx325_0 := hc_ HB hx325_0
   replace hx325_1 := hc_ HB hx325_1
   replace p325 := eq_true p325; replace q325 := eq_true q325
   refine start_ (n := 9) (S := fun w' => w'.cell? ⟨gb321, 0, none⟩ = some (.slice A0_0 l0_0.length c0_0) ∧ w'.cell? ⟨gb321, 1, none⟩ = some (.slice (some ad325) l0_1.length c0_1) ∧ w'.cell? (ad325.add ((x4_1).toNat * 2)) = some (.string ((rd_T73 l0_1 x4_1).f0)) ∧ w'.cell? ⟨(ad325.add ((x4_1).toNat * 2)).block, (ad325.add ((x4_1).toNat * 2)).off + 1, none⟩ = some (.string ((rd_T73 l0_1 x4_1).f1))) (ds := []) (bm 9 0) (by kernel_rfl) rfl rfl ⟨(blk_cell BK321.out 0).trans rfl, (blk_cell BK321.out 1).trans rfl, ((HB.out.cell (World.block_lt_of_cell? w _ hw325_0)).trans hw325_0), ((HB.out.cell (World.block_lt_of_cell? w _ hw325_1)).trans hw325_1)⟩ (fun hHeld => ?_); refine with_tabW spec_l2Words.tab5 spec_l2Words.bits5 (fun HT_ HW_ => ?_)
   generalize wr.drew = w9 at HO_3 BK321 HB hx325_0 hx325_1 hHeld ⊢
   refine sp_ 0 (some 15) (bm 9 1) HT_ (h := ?_)
   refine sp_ 2 (some 17) (bm 9 5) HT_ (h := ?_)
   refine sp_ 4 (some 19) (bm 9 21) HT_ (h := ?_)
   refine sr_ 1 (some 16) (bm 9 23) HT_ HW_ hHeld (h := ?_)
   refine sr_ 3 (some 18) (bm 9 31) HT_ HW_ hHeld (h := ?_)
   refine sp_ 5 (some 20) (bm 9 63) HT_ (h := ?_)
   refine sr_ 6 (some 21) (bm 9 127) HT_ HW_ hHeld (h := ?_)
   refine sn_ 7 (some 22) (bm 9 255) HT_ (fun K hK => ?_)
   refine goes_ Try.func53 (by kernel_rfl) rfl #[.slice A0_0 l0_0.length c0_0, .agg #[.string ((rd_T73 l0_1 x4_1).f0), .string ((rd_T73 l0_1 x4_1).f1)]] (by rfl) rfl rfl (by (try simp only [List.map_toArray, List.map_cons, List.map_nil]); first | done | rfl | (simp only [List.length_drop, List.length_take]; rfl)) ?_
   with_reducible refine (spec_l2Forms.calls k1 _ _ l0_0 ((rd_T73 l0_1 x4_1).f0) ((rd_T73 l0_1 x4_1).f1) t326 _ ?side1 ?side2 A7.out).mono ?_
   (case side1 => exact cb_ HR0_0)
   (case side2 => exact HC0_0.out)
   rintro e w10 ⟨v327, rfl, ho0, hb⟩
   refine ⟨_, rfl, ?_⟩
   have HO328 := Aside0.mk (Kd.R_lower (Kd.R_new' ho0 (Kd.R_lt (kR_ HO_3))) (below_size (bl_)))
   replace HO_3 := Aside0.mk (Kd.R_elder' (kR_ HO_3) (Kd.R_base ho0) hb)
   replace BK321 := Aside0.mk (blk_below (bk_ BK321) hb)
   replace HB := Aside0.mk (below_step (bl_) hb)
   (try clear hb)
   (try clear hb2)
   (try clear hk)
   (try clear hi)
   (try clear ho0)
   refine hK.out _ _ ⟨(blk_cell BK321.out 0).trans rfl, (blk_cell BK321.out 1).trans rfl, ((HB.out.cell (World.block_lt_of_cell? w _ hw325_0)).trans hw325_0), ((HB.out.cell (World.block_lt_of_cell? w _ hw325_1)).trans hw325_1)⟩ (fun hHeld => ?_)
   clear hK K
   refine nm_ ?_
   refine sp_ 8 (some 5) (bm 9 511) HT_ (h := ?_)
   refine done_ (done_of HT_.out (by kernel_rfl)) ?_
   try go_wp2
   go_loopg [3, 6] k1 (fun kq v3 v6 w' => ∃ (x3_2 : List ByteArray) (x6_2 : Int), v6 = .int .i64 x6_2 ∧ Aside0 (spec_l2Words.l1 kq x3_2 x4_1 t326 x6_2 l0_0 l0_1 = some r) ∧ Aside0 (kq ≤ k1) ∧ Aside0 (Kd.R Kd.string 9 w' w.heap.size (fun k_ => some k_ ≠ (v327 : Value).ownBlock) v3 x3_2) ∧ Aside0 (Kd.R Kd.string 9 w' w.heap.size (fun k_ => some k_ ≠ (v3 : Value).ownBlock) v327 t326) ∧ Aside0 (w'.heap[gb321]? = some (.cells #[(.slice A0_0 l0_0.length c0_0), (.slice (some ad325) l0_1.length c0_1)] 26 (0, 0))) ∧ Aside0 (Below w.heap.size w w'))
   case atStart => exact ⟨(x3_1), (0), rf_, H', ⟨Nat.le_refl _⟩, ⟨by (with_reducible repeat (first | apply Kd.R_alloc | apply Kd.R_drewN | apply Kd.R_drew)); exact Kd.R_mono HO_3.out (fun _ hk => hk.2)⟩, ⟨by (with_reducible repeat (first | apply Kd.R_alloc | apply Kd.R_drewN | apply Kd.R_drew)); exact Kd.R_mono HO328.out (fun _ hk => hk.2)⟩, ⟨by (with_reducible repeat (first | refine blk_drewN ?_ _ | refine blk_drew ?_ | refine blk_alloc ?_ _)); exact BK321.out⟩, ⟨bl_⟩⟩
   case round =>
    clear H'
    (try clear c2);(try clear p2);(try clear p3);(try clear q3);(try clear hx3);(try clear c5);(try clear c5b0);(try clear c6);(try clear c6b0);(try clear hcz8_0);(try clear hcz8_1);(try clear hfz8_0);(try clear hfz8_1);(try clear hx325_0);(try clear hx325_1);(try clear p2);(try clear p325);(try clear q325)
    obtain ⟨x3_2, x6_2, rfl, HA, HK2, HO_3, HO_5, BK321, HB⟩ := hrel
    cases gk with
    | zero => exact absurd HA.out (by simp [spec_l2Words.l1])
    | succ k2 =>
     have H := HA.out
     clear HA
     simp only [spec_l2Words.l1] at H
     replace H := iudd_ H; rcases H with ⟨c11b0, H⟩ | ⟨c11b0, H⟩
     · have H' := Aside0.mk H
       clear H
       obtain ⟨Ao17, co17, eo17⟩ := Kd.R_slice HO_5.out
       subst eo17
       go_wp2
       go_roundg k2
       case measure => have := HK1.out; have := HK2.out; omega
       case rel => exact ⟨(x3_2), (wrap64 (x4_1 + 1)), rf_, H', ⟨by have := HK1.out; have := HK2.out; omega⟩, ⟨by (with_reducible repeat (first | apply Kd.R_alloc | apply Kd.R_drewN | apply Kd.R_drew)); exact Kd.R_mono HO_3.out (fun _ hk => trivial)⟩, ⟨by (with_reducible repeat (first | refine blk_drewN ?_ _ | refine blk_drew ?_ | refine blk_alloc ?_ _)); exact BK321.out⟩, ⟨bl_⟩⟩
     replace H := ind_ H; obtain ⟨c12b0, H⟩ := H
     replace H := Option.bind_eq_some_iff.mp H
     obtain ⟨t330, A130, H⟩ := H; try dsimp only at H
     have A13 := Aside0.mk A130
     clear A130
     have H' := Aside0.mk H; clear H
     obtain ⟨Ao14, co14, eo14⟩ := Kd.R_slice HO_5.out
     subst eo14
     have p329 : 0 ≤ (x6_2 : Int) := od_
     have q329 : x6_2 < (t326.length : Int) := od_
     obtain ⟨ad329, e329, hx329_0⟩ := Kd.at_string (Kd.R_reads' HO_5.out).2.2 x6_2 p329 q329
     cases e329
     replace p329 := eq_true p329; replace q329 := eq_true q329
     obtain ⟨Ao15, co15, eo15⟩ := Kd.R_slice HO_3.out
     subst eo15
     go_wp2_with (first | ((with_reducible refine gate_callee (f := 54) rfl ?_); refine gl_ 34 Try.func54 #[.slice Ao15 x3_2.length co15, .string (rdOf ByteArray.empty t326 x6_2)] ?_; (with_reducible refine (spec_l1Put.calls k2 (fun k_ => some k_ = (.slice Ao15 x3_2.length co15 : Value).ownBlock) (.slice Ao15 x3_2.length co15) x3_2 (rdOf ByteArray.empty t326 x6_2) t330 w _ ?side1 ?side2 A13.out).mono ?_); (case side1 => exact bs_); (case side2 => exact Kd.R_tight rfl HO_3.out); rintro e w16 ⟨v331, rfl, ho0, hb, hkp⟩; refine ⟨_, rfl, ?_⟩; replace BK321 := Aside0.mk (blk_kept (bk_ BK321) hkp (fun hs_ => (fun e_ => (Kd.R_ne HO_3.out BK321.out (by decide)) e_) hs_)); have HO332 := Aside0.mk (Kd.R_mono (ok' := fun k_ => some k_ ≠ (.slice (some ad329) t326.length co14 : Value).ownBlock) ho0 (fun k_ hk_ => Or.elim hk_ (fun hs_ => fun e_ => (((HO_5.out).1 k_ e_.symm)) hs_) (fun hn_ => (Kd.fresh' (Kd.R_lt (kR_ HO_5)) k_ hn_)))); replace HO_5 := Aside0.mk (Kd.R_mono (ok' := fun k_ => some k_ ≠ (v331 : Value).ownBlock) (Kd.R_keptB (HO_5.out) hkp (fun k_ hk_ hs_ => (hk_) hs_)) (fun k_ hk_ => fun e_ => Or.elim (ho0.1 k_ e_.symm) (fun hs_ => hk_.2.1 hs_) (fun hn_ => Nat.not_le.2 hk_.2.2 hn_))); replace HB := Aside0.mk (hb); clear HO_3; (try clear hb); (try clear hkp); (try clear ho0)))
     go_roundg k2
     case measure => have := HK1.out; have := HK2.out; omega
     case rel => exact ⟨(t330), (wrap64 (x6_2 + 1)), rf_, H', ⟨by have := HK1.out; have := HK2.out; omega⟩, ⟨kR_ HO332⟩, ⟨kR_ HO_5⟩, ⟨by (with_reducible repeat (first | refine blk_drewN ?_ _ | refine blk_drew ?_ | refine blk_alloc ?_ _)); exact BK321.out⟩, ⟨bl_⟩⟩

/-! ### spec_l13Of: function 19 -/
def spec_l13Of.j0 : Nat → Bool → List Int → Int → List (S68) → List (S73) → Option (ByteArray × Int)
 | 0, _, _, _, _, _ => none
 | k + 1, x12, x1000, x1001, x334000, x334001 => if x12 = true then ((spec_l2Words.f k x334000 x334001).bind fun t337 => (if (t337.length : Int) > 0 then ((spec_l1Rd_pick.f k x1000 x1001 (t337.length : Int)).bind fun bt340 => (if 0 ≤ bt340.1 then (if bt340.1 < (t337.length : Int) then (some (rdOf ByteArray.empty t337 bt340.1, bt340.2)) else (none)) else (none))) else ((spec_l13AnyWord.f k x1000 x1001).bind fun bt343 => (some (bt343.1, bt343.2))))) else ((spec_l13AnyWord.f k x1000 x1001).bind fun bt345 => (some (bt345.1, bt345.2)))
def spec_l13Of.f (k : Nat) (s0_0 : List Int) (s0_1 : Int) (l1_0 : List (S68)) (l1_1 : List (S73)) : Option (ByteArray × Int) := (spec_BookOk.f k l1_0 l1_1).bind fun t334 => (if t334 = true then ((spec_l1Rd_pick.f k s0_0 s0_1 2).bind fun bt335 => (spec_l13Of.j0 k (bt335.1 == 0) s0_0 bt335.2 l1_0 l1_1)) else (spec_l13Of.j0 k false s0_0 s0_1 l1_0 l1_1))
theorem spec_l13Of.mono_l : ∀ k, (∀ y0 y1 y2 y3 y4, LeO (spec_l13Of.j0 k y0 y1 y2 y3 y4) (spec_l13Of.j0 (k + 1) y0 y1 y2 y3 y4))
 | 0 => fun _ _ _ _ _ r h => by simp [spec_l13Of.j0] at h
 | k + 1 => by
  have ih0 := spec_l13Of.mono_l k
  · intro y0 y1 y2 y3 y4
    unfold spec_l13Of.j0
    have m0 := @spec_BookOk.mono
    have m1 := @spec_l13AnyWord.mono
    have m2 := @spec_l1Rd_pick.mono
    have m3 := @spec_l2Words.mono
    exact mn_
theorem spec_l13Of.mono : ∀ a0 a1 a2 a3 k, LeO (spec_l13Of.f k a0 a1 a2 a3) (spec_l13Of.f (k + 1) a0 a1 a2 a3) := by
 intro a0 a1 a2 a3 k
 have ih0 := spec_l13Of.mono_l k
 unfold spec_l13Of.f
 have m0 := @spec_BookOk.mono
 have m1 := @spec_l13AnyWord.mono
 have m2 := @spec_l1Rd_pick.mono
 have m3 := @spec_l2Words.mono
 exact mn_
theorem spec_l13Of.calls (k : Nat) (g : Nat) (s0_0 : List Int) (s0_1 : Int) (A1_0 : Option Addr) (c1_0 : Nat) (l1_0 : List (S68)) (A1_1 : Option Addr) (c1_1 : Nat) (l1_1 : List (S73)) (r1 : ByteArray) (r2 : Int) (w0 w : World) (hI : IsS66 w0 w g s0_0 s0_1) (hB : Below w0.heap.size w0 w) (hr1_0 : ∀ W_, KeepBut w W_ g none → Kd.C k68 W_ A1_0 l1_0.length l1_0) (hc1_0 : l1_0.length ≤ c1_0) (hr1_1 : ∀ W_, KeepBut w W_ g none → Kd.C k73 W_ A1_1 l1_1.length l1_1) (hc1_1 : l1_1.length ≤ c1_1) (h : spec_l13Of.f k s0_0 s0_1 l1_0 l1_1 = some (r1, r2)) :
 Calls Try.prog 19 #[.pointer (some ⟨g, 0, none⟩), .agg #[.slice A1_0 l1_0.length c1_0, .slice A1_1 l1_1.length c1_1]] w fun e w' => e = .returned (.string r1) ∧ IsS66 w0 w' g s0_0 r2 ∧ Below w0.heap.size w0 w' ∧ KeepBut w w' g none := by
 have hu26 := Try.underlying26
 have HR1_0 := Aside0.mk hr1_0
 have HC1_0 := Aside0.mk hc1_0
 clear hr1_0 hc1_0
 have HR1_1 := Aside0.mk hr1_1
 have HC1_1 := Aside0.mk hc1_1
 clear hr1_1 hc1_1
 have HI0 := Aside0.mk hI
 have HK := Aside0.mk (KeepBut.refl w g none)
 have HL := Aside0.mk hB.size
 clear hI
 have HW0 := Aside0.mk hB.size
 have HB := Aside0.mk hB
 clear hB
 unfold spec_l13Of.f at h; have H := h; clear h
 have HC3 := Aside0.mk H
 clear H
 go_enter Try.func19, Try.ntmps19
 go_upto_region 1 with (first | ((with_reducible refine gate_dst (N := 3) rfl ?_); refine be_ 3 26 #[.slice A1_0 l1_0.length c1_0, .slice A1_1 l1_1.length c1_1] ?_; intro gb333 hg w4 hbox hb; replace HB := Aside0.mk (below_step bs_ hb); have BK333 := Aside0.mk (hbox); have GW333 := Aside0.mk ((gk_ hg : w.heap.size ≤ gb333)); have GE333 := Aside0.mk ((Nat.le_trans HW0.out (gk_ hg : w.heap.size ≤ gb333) : w0.heap.size ≤ gb333)); replace HK := Aside0.mk (KeepBut.trans kp_ (KeepBut.of_below hb g none) (.inl rfl)); have NB0_333 := Aside0.mk ((by rw [hg]; exact Nat.ne_of_lt (IsS66.lt (show IsS66 w0 _ g s0_0 s0_1 from is66_)) : g ≠ gb333)); have NB333_0 := Aside0.mk ((by rw [hg]; exact Nat.ne_of_gt (IsS66.lt (show IsS66 w0 _ g s0_0 s0_1 from is66_)) : gb333 ≠ g)); replace HI0 := Aside0.mk (IsS66.below is66_ hb); clear hb hbox hg))
 (try simp only [Act.put, List.setIfInBounds_toArray, List.set_cons_zero, List.set_cons_succ])
 go_cut [12] (fun v12 wc => ∃ (kq : Nat) (x12_2 : Bool) (x1001_2 : Int), v12 = .bool x12_2 ∧ Aside0 (spec_l13Of.j0 kq x12_2 s0_0 x1001_2 l1_0 l1_1 = some (r1, r2)) ∧ Aside0 (kq ≤ k) ∧ Aside0 (wc.heap[gb333]? = some (.cells #[(.slice A1_0 l1_0.length c1_0), (.slice A1_1 l1_1.length c1_1)] 26 (0, 0))) ∧ Aside0 (IsS66 w0 wc g s0_0 x1001_2) ∧ Aside0 (KeepBut w wc g none) ∧ Aside0 (Below w0.heap.size w0 wc))
 case first =>
  have H := HC3.out
  clear HC3
  replace H := Option.bind_eq_some_iff.mp H
  obtain ⟨t334, A50, H⟩ := H; try dsimp only at H
  have A5 := Aside0.mk A50
  clear A50
  replace H := iub_ H; rcases H with ⟨rfl, H⟩ | ⟨rfl, H⟩
  · have H' := Aside0.mk H
    clear H
    have hnb12 := NB333_0.out
    have hnc12 := NB0_333.out
    have hcz13_0 := bc0_ BK333
    have hcz13_1 := bc1_ BK333
    have hfz13_0 := blk_frozen BK333.out 0
    have hfz13_1 := blk_frozen BK333.out 1
    go_wp2_with (first | ((with_reducible refine gate_callee (f := 25) rfl ?_); refine gl_ 7 Try.func25 #[.agg #[.slice A1_0 l1_0.length c1_0, .slice A1_1 l1_1.length c1_1]] ?_; (with_reducible refine (spec_BookOk.calls k _ _ l1_0 _ _ l1_1 false _ ?side1 ?side2 ?side3 ?side4 A5.out).mono ?_); (case side1 => exact Kd.C_foot_now HR1_0.out kp_); (case side2 => exact HC1_0.out); (case side3 => exact Kd.C_foot_now HR1_1.out kp_); (case side4 => exact HC1_1.out); rintro e w14 ⟨rfl, hb⟩; refine ⟨_, rfl, ?_⟩; replace BK333 := Aside0.mk (blk_below (bk_ BK333) hb); replace HK := Aside0.mk (KeepBut.trans kp_ (KeepBut.of_below hb g none) (.inl rfl)); replace HB := Aside0.mk (below_step bs_ hb); replace HI0 := Aside0.mk (IsS66.below is66_ hb); (try clear hb); (try clear hb2); (try clear hk); (try clear hi)))
    go_meet
    case rel => exact ⟨_, (false), (s0_1), rf_, H', ⟨by first | omega | exact Nat.le_refl _⟩, ⟨by (with_reducible repeat (first | refine blk_drewN ?_ _ | refine blk_drew ?_ | refine blk_alloc ?_ _)); exact BK333.out⟩, ⟨is66_⟩, ⟨kp_⟩, ⟨bs_⟩⟩
  replace H := Option.bind_eq_some_iff.mp H
  obtain ⟨⟨t335, t336⟩, A70, H⟩ := H; try dsimp only at H
  have A7 := Aside0.mk A70
  clear A70
  have H' := Aside0.mk H; clear H
  have hnb8 := NB333_0.out
  have hnc8 := NB0_333.out
  have hcz9_0 := bc0_ BK333
  have hcz9_1 := bc1_ BK333
  have hfz9_0 := blk_frozen BK333.out 0
  have hfz9_1 := blk_frozen BK333.out 1
  go_wp2_with (first | ((with_reducible refine gate_callee (f := 25) rfl ?_); refine gl_ 7 Try.func25 #[.agg #[.slice A1_0 l1_0.length c1_0, .slice A1_1 l1_1.length c1_1]] ?_; (with_reducible refine (spec_BookOk.calls k _ _ l1_0 _ _ l1_1 true _ ?side1 ?side2 ?side3 ?side4 A5.out).mono ?_); (case side1 => exact Kd.C_foot_now HR1_0.out kp_); (case side2 => exact HC1_0.out); (case side3 => exact Kd.C_foot_now HR1_1.out kp_); (case side4 => exact HC1_1.out); rintro e w10 ⟨rfl, hb⟩; refine ⟨_, rfl, ?_⟩; replace BK333 := Aside0.mk (blk_below (bk_ BK333) hb); replace HK := Aside0.mk (KeepBut.trans kp_ (KeepBut.of_below hb g none) (.inl rfl)); replace HB := Aside0.mk (below_step bs_ hb); replace HI0 := Aside0.mk (IsS66.below is66_ hb); (try clear hb); (try clear hb2); (try clear hk); (try clear hi)) | (go_at_call 20; (with_reducible refine (spec_l1Rd_pick.calls k g s0_0 s0_1 2 t335 t336 w0 _ ?side1 ?side2 A7.out).mono ?_); (case side1 => exact is66_); (case side2 => exact bs_); rintro e w11 ⟨rfl, hi, hb, hk⟩; replace BK333 := Aside0.mk (KeepBut.blk hk (g' := gb333) (o := .cells #[.slice A1_0 l1_0.length c1_0, .slice A1_1 l1_1.length c1_1] 26 (0, 0)) (bk_ BK333) NB333_0.out (by simp)); replace HK := Aside0.mk (KeepBut.trans kp_ hk (.inl rfl)); replace HB := Aside0.mk (hb); replace HI0 := Aside0.mk (hi); (try clear hb); (try clear hb2); (try clear hk); (try clear hi)))
  go_meet
  case rel => exact ⟨_, ((t335 == 0)), (t336), rf_, H', ⟨by first | omega | exact Nat.le_refl _⟩, ⟨by (with_reducible repeat (first | refine blk_drewN ?_ _ | refine blk_drew ?_ | refine blk_alloc ?_ _)); exact BK333.out⟩, ⟨is66_⟩, ⟨kp_⟩, ⟨bs_⟩⟩
 case rest =>
  clear HC3
  (try clear c1);(try clear c2);(try clear p2);(try clear c6);(try clear c8);(try clear c12);(try clear hcz13_0);(try clear hcz13_1);(try clear hcz9_0);(try clear hcz9_1);(try clear hfz13_0);(try clear hfz13_1);(try clear hfz9_0);(try clear hfz9_1)
  obtain ⟨kq, x12_2, x1001_2, rfl, HA, HJ2, BK333, HI0, HK, HB⟩ := hcut
  cases kq with
  | zero => exact absurd HA.out (by simp [spec_l13Of.j0])
  | succ kj2 =>
   have H := HA.out
   clear HA
   simp only [spec_l13Of.j0] at H
   replace H := iub_ H; rcases H with ⟨rfl, H⟩ | ⟨rfl, H⟩
   · replace H := Option.bind_eq_some_iff.mp H
     obtain ⟨⟨t345, t346⟩, A320, H⟩ := H; try dsimp only at H
     have A32 := Aside0.mk A320
     clear A320
     simp only [Option.some.injEq, Prod.mk.injEq] at H
     obtain ⟨rfl, rfl⟩ := H
     go_wp2_with (first | ((with_reducible refine gate_callee (f := 41) rfl ?_); refine gl_ 26 Try.func41 #[.pointer (some ⟨g, 0, none⟩)] ?_; (with_reducible refine (spec_l13AnyWord.calls kj2 g s0_0 x1001_2 t345 t346 w0 _ ?side1 ?side2 A32.out).mono ?_); (case side1 => exact is66_); (case side2 => exact bs_); rintro e w33 ⟨rfl, hi, hb, hk⟩; refine ⟨_, rfl, ?_⟩; replace BK333 := Aside0.mk (KeepBut.blk hk (g' := gb333) (o := .cells #[.slice A1_0 l1_0.length c1_0, .slice A1_1 l1_1.length c1_1] 26 (0, 0)) (bk_ BK333) NB333_0.out (by simp)); replace HK := Aside0.mk (KeepBut.trans kp_ hk (.inl rfl)); replace HB := Aside0.mk (hb); replace HI0 := Aside0.mk (hi); (try clear hb); (try clear hb2); (try clear hk); (try clear hi)))
     go_ret
     exact ⟨rfe_, is66_, bs_, kp_⟩
   replace H := Option.bind_eq_some_iff.mp H
   obtain ⟨t337, A160, H⟩ := H; try dsimp only at H
   have A16 := Aside0.mk A160
   clear A160
   replace H := iucc_ H; rcases H with ⟨c17, H⟩ | ⟨c17, H⟩
   · have c17b0 : decide (0 < (t337.length : Int)) = false := decide_eq_false c17
     have c17b1 : decide (0 < t337.length) = false := decide_eq_false (by omega)
     clear c17
     replace H := Option.bind_eq_some_iff.mp H
     obtain ⟨⟨t343, t344⟩, A260, H⟩ := H; try dsimp only at H
     have A26 := Aside0.mk A260
     clear A260
     simp only [Option.some.injEq, Prod.mk.injEq] at H
     obtain ⟨rfl, rfl⟩ := H
     have hnb27 := NB333_0.out
     have hnc27 := NB0_333.out
     have hcz28_0 := bc0_ BK333
     have hcz28_1 := bc1_ BK333
     have hfz28_0 := blk_frozen BK333.out 0
     have hfz28_1 := blk_frozen BK333.out 1
     go_wp2_with (first | ((with_reducible refine gate_callee (f := 28) rfl ?_); refine gl_ 14 Try.func28 #[.agg #[.slice A1_0 l1_0.length c1_0, .slice A1_1 l1_1.length c1_1]] ?_; (with_reducible refine (spec_l2Words.calls kj2 _ _ l1_0 _ _ l1_1 t337 _ ?side1 ?side2 ?side3 ?side4 A16.out).mono ?_); (case side1 => exact Kd.C_foot_now HR1_0.out kp_); (case side2 => exact HC1_0.out); (case side3 => exact Kd.C_foot_now HR1_1.out kp_); (case side4 => exact HC1_1.out); rintro e w29 ⟨v338, rfl, ho0, hb⟩; refine ⟨_, rfl, ?_⟩; have HO339 := Aside0.mk (Kd.R_lower ho0 ks_); replace BK333 := Aside0.mk (blk_below (bk_ BK333) hb); replace HK := Aside0.mk (KeepBut.trans kp_ (KeepBut.of_below hb g none) (.inl rfl)); replace HB := Aside0.mk (below_step bs_ hb); replace HI0 := Aside0.mk (IsS66.below is66_ hb); (try clear hb); (try clear hb2); (try clear hk); (try clear hi); (try clear ho0); obtain ⟨Ao30, co30, eo30⟩ := Kd.R_slice HO339.out; subst eo30) | ((with_reducible refine gate_callee (f := 41) rfl ?_); refine gl_ 26 Try.func41 #[.pointer (some ⟨g, 0, none⟩)] ?_; (with_reducible refine (spec_l13AnyWord.calls kj2 g s0_0 x1001_2 t343 t344 w0 _ ?side1 ?side2 A26.out).mono ?_); (case side1 => exact is66_); (case side2 => exact bs_); rintro e w31 ⟨rfl, hi, hb, hk⟩; refine ⟨_, rfl, ?_⟩; replace BK333 := Aside0.mk (KeepBut.blk hk (g' := gb333) (o := .cells #[.slice A1_0 l1_0.length c1_0, .slice A1_1 l1_1.length c1_1] 26 (0, 0)) (bk_ BK333) NB333_0.out (by simp)); replace HO339 := Aside0.mk (kaR66_ (kR_ HO339) hk); replace HK := Aside0.mk (KeepBut.trans kp_ hk (.inl rfl)); replace HB := Aside0.mk (hb); replace HI0 := Aside0.mk (hi); (try clear hb); (try clear hb2); (try clear hk); (try clear hi)))
     go_ret
     exact ⟨rfe_, is66_, bs_, kp_⟩
   have c17b0 : decide (0 < (t337.length : Int)) = true := decide_eq_true c17
   have c17b1 : decide (0 < t337.length) = true := decide_eq_true (by omega)
   clear c17
   replace H := Option.bind_eq_some_iff.mp H
   obtain ⟨⟨t340, t341⟩, A180, H⟩ := H; try dsimp only at H
   have A18 := Aside0.mk A180
   clear A180
   replace H := ind_ H; obtain ⟨c19b0, H⟩ := H
   replace H := ind_ H; obtain ⟨c20b0, H⟩ := H
   simp only [Option.some.injEq, Prod.mk.injEq] at H
   obtain ⟨rfl, rfl⟩ := H
   have hnb21 := NB333_0.out
   have hnc21 := NB0_333.out
   have hcz22_0 := bc0_ BK333
   have hcz22_1 := bc1_ BK333
   have hfz22_0 := blk_frozen BK333.out 0
   have hfz22_1 := blk_frozen BK333.out 1
   go_wp2_with (first | ((with_reducible refine gate_callee (f := 28) rfl ?_); refine gl_ 14 Try.func28 #[.agg #[.slice A1_0 l1_0.length c1_0, .slice A1_1 l1_1.length c1_1]] ?_; (with_reducible refine (spec_l2Words.calls kj2 _ _ l1_0 _ _ l1_1 t337 _ ?side1 ?side2 ?side3 ?side4 A16.out).mono ?_); (case side1 => exact Kd.C_foot_now HR1_0.out kp_); (case side2 => exact HC1_0.out); (case side3 => exact Kd.C_foot_now HR1_1.out kp_); (case side4 => exact HC1_1.out); rintro e w23 ⟨v338, rfl, ho0, hb⟩; refine ⟨_, rfl, ?_⟩; have HO339 := Aside0.mk (Kd.R_lower ho0 ks_); replace BK333 := Aside0.mk (blk_below (bk_ BK333) hb); replace HK := Aside0.mk (KeepBut.trans kp_ (KeepBut.of_below hb g none) (.inl rfl)); replace HB := Aside0.mk (below_step bs_ hb); replace HI0 := Aside0.mk (IsS66.below is66_ hb); (try clear hb); (try clear hb2); (try clear hk); (try clear hi); (try clear ho0); obtain ⟨Ao24, co24, eo24⟩ := Kd.R_slice HO339.out; subst eo24) | ((with_reducible refine gate_callee (f := 20) rfl ?_); refine gl_ 22 Try.func20 #[.pointer (some ⟨g, 0, none⟩), .int .i64 (t337.length : Int)] ?_; (with_reducible refine (spec_l1Rd_pick.calls kj2 g s0_0 x1001_2 (t337.length : Int) t340 t341 w0 _ ?side1 ?side2 A18.out).mono ?_); (case side1 => exact is66_); (case side2 => exact bs_); rintro e w25 ⟨rfl, hi, hb, hk⟩; refine ⟨_, rfl, ?_⟩; replace BK333 := Aside0.mk (KeepBut.blk hk (g' := gb333) (o := .cells #[.slice A1_0 l1_0.length c1_0, .slice A1_1 l1_1.length c1_1] 26 (0, 0)) (bk_ BK333) NB333_0.out (by simp)); replace HO339 := Aside0.mk (kaR66_ (kR_ HO339) hk); replace HK := Aside0.mk (KeepBut.trans kp_ hk (.inl rfl)); replace HB := Aside0.mk (hb); replace HI0 := Aside0.mk (hi); (try clear hb); (try clear hb2); (try clear hk); (try clear hi); have p342 : 0 ≤ (t340 : Int) := od_; have q342 : t340 < (t337.length : Int) := od_; obtain ⟨ad342, e342, hx342_0⟩ := Kd.at_string (Kd.R_reads' HO339.out).2.2 t340 p342 q342; cases e342; replace p342 := eq_true p342; replace q342 := eq_true q342))
   go_ret
   exact ⟨rfe_, is66_, bs_, kp_⟩

end Go.Proofs.Ytbopiacjioedeaa.P
