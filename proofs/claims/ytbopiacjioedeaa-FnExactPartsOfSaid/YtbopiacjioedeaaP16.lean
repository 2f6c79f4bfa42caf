-- Written by a program of this session (wip/gen/gen.py) out of Lean's print of the loaded program; Lean checks it.
import Derived.Test.YtbopiacjioedeaaP0
import Derived.Test.YtbopiacjioedeaaSq2
import Derived.Test.YtbopiacjioedeaaP15
namespace Go.Proofs.Ytbopiacjioedeaa.P
open Go.RowKit Go.Proofs.YtbopiacjioedeaaW.PrintWords Go.Proofs.YtbopiacjioedeaaW.PrintLast Go.Proofs.YtbopiacjioedeaaW.PrintMore
attribute [local go_sem] max2_int min2_int max_two min_two max_three min_three max_four min_four IntKind.wrap_u8 IntKind.wrap_u32 w64_256 w64_u32
set_option maxHeartbeats 8000000
set_option maxRecDepth 100000
set_option linter.unusedVariables false
set_option linter.unusedSimpArgs false

/-! ### laws_eqEntryS: function 35 -/
def laws_eqEntryS.l0 : Nat → List (S73) → List (S73) → Int → Option (Bool)
 | 0, _, _, _ => none
 | k + 1, x0, x1, x5 => if x5 < (x0.length : Int) then (if 0 ≤ x5 then (if x5 < (x1.length : Int) then ((laws_eqEntry.f ((rd_T73 x0 x5).f0) ((rd_T73 x0 x5).f1) ((rd_T73 x1 x5).f0) ((rd_T73 x1 x5).f1)).bind fun t406 => (if t406 = true then (laws_eqEntryS.l0 k x0 x1 (wrap64 (x5 + 1))) else (some false))) else (none)) else (none)) else (some true)
def laws_eqEntryS.f (k : Nat) (l0 : List (S73)) (l1 : List (S73)) : Option (Bool) := if (l0.length : Int) = (l1.length : Int) then (laws_eqEntryS.l0 k l0 l1 0) else (some false)
theorem laws_eqEntryS.mono_l : ∀ k, (∀ y0 y1 y2, LeO (laws_eqEntryS.l0 k y0 y1 y2) (laws_eqEntryS.l0 (k + 1) y0 y1 y2))
 | 0 => fun _ _ _ r h => by simp [laws_eqEntryS.l0] at h
 | k + 1 => by
  have ih0 := laws_eqEntryS.mono_l k
  · intro y0 y1 y2
    unfold laws_eqEntryS.l0
    exact mn_
theorem laws_eqEntryS.mono : ∀ a0 a1 k, LeO (laws_eqEntryS.f k a0 a1) (laws_eqEntryS.f (k + 1) a0 a1) := by
 intro a0 a1 k
 have ih0 := laws_eqEntryS.mono_l k
 unfold laws_eqEntryS.f
 exact mn_
def laws_eqEntryS.T6 : Bool × List (List Nat × List Nat) := (true, [([], []), ([], []), ([0, 1], [0, 1]), ([2], [2]), ([], []), ([], []), ([4, 5], [4, 5]), ([6], [6]), ([3, 7], [3, 7]), ([8], [8])])
def laws_eqEntryS.B6 : List Nat := [0, 0, 3, 7, 0, 0, 48, 112, 255, 511]
theorem laws_eqEntryS.tab6 : rtab .any (opsOf Try.f35 6) = laws_eqEntryS.T6 := by kernel_rfl
theorem laws_eqEntryS.bits6 : waitsOk laws_eqEntryS.T6.2 laws_eqEntryS.B6 = true := by kernel_rfl
theorem laws_eqEntryS.calls (k : Nat) (A0 : Option Addr) (c0 : Nat) (l0 : List (S73)) (A1 : Option Addr) (c1 : Nat) (l1 : List (S73)) (r : Bool) (w : World) (hr0 : Kd.C k73 w A0 l0.length l0) (hc0 : l0.length ≤ c0) (hr1 : Kd.C k73 w A1 l1.length l1) (hc1 : l1.length ≤ c1) (h : laws_eqEntryS.f k l0 l1 = some r) :
 Calls Try.prog 35 #[.slice A0 l0.length c0, .slice A1 l1.length c1] w fun e w' => e = .returned (.bool r) ∧ Below w.heap.size w w' := by
 have hu73 := Try.underlying73
 have HR0 := Aside0.mk hr0
 have HC0 := Aside0.mk hc0
 clear hr0 hc0
 have HR1 := Aside0.mk hr1
 have HC1 := Aside0.mk hc1
 clear hr1 hc1
 have HB := Aside0.mk (Below.refl w.heap.size w)
 unfold laws_eqEntryS.f at h; have H := h; clear h
 replace H := iucc_ H; rcases H with ⟨c3, H⟩ | ⟨c3, H⟩
 · have c3b0 : ((l0.length : Int) == (l1.length : Int)) = false := beq_eq_false_iff_ne.mpr c3
   have c3b1 : ((l0.length : Int) != (l1.length : Int)) = true := bne_iff_ne.mpr c3
   have c3b2 : (l0.length == l1.length) = false := by first | simpa using c3 | (simp at c3 ⊢; omega)
   obtain rfl := Option.some.inj H
   go_enter Try.func35, Try.ntmps35
   go_wp2
   go_ret
   exact ⟨rfe_, bl_⟩
 have c3b0 : ((l0.length : Int) == (l1.length : Int)) = true := beq_iff_eq.mpr c3
 have c3b1 : ((l0.length : Int) != (l1.length : Int)) = false := bne_eq_false_iff_eq.mpr c3
 have c3b2 : (l0.length == l1.length) = true := by first | simpa using c3 | (simp at c3 ⊢; omega)
 clear c3
 have H' := Aside0.mk H; clear H
 go_enter Try.func35, Try.ntmps35
 go_wp2
 go_loopg [5] k (fun kq v5 w' => ∃ (x5_1 : Int), v5 = .int .i64 x5_1 ∧ Aside0 (laws_eqEntryS.l0 kq l0 l1 x5_1 = some r) ∧ Aside0 (kq ≤ k) ∧ Aside0 (Below w.heap.size w w'))
 case atStart => exact ⟨(0), rf_, H', ⟨Nat.le_refl _⟩, ⟨bl_⟩⟩
 case round =>
  clear H'
  (try clear c1);(try clear p2);(try clear c3);(try clear c3b0);(try clear c3b1);(try clear c3b2)
  obtain ⟨x5_1, rfl, HA, HK1, HB⟩ := hrel
  cases gk with
  | zero => exact absurd HA.out (by simp [laws_eqEntryS.l0])
  | succ k1 =>
   have H := HA.out
   clear HA
   simp only [laws_eqEntryS.l0] at H
   replace H := iudd_ H; rcases H with ⟨c4b0, H⟩ | ⟨c4b0, H⟩
   · obtain rfl := Option.some.inj H
     go_wp2
     go_ret
     exact ⟨rfe_, bl_⟩
   replace H := ind_ H; obtain ⟨c5b0, H⟩ := H
   replace H := ind_ H; obtain ⟨c6b0, H⟩ := H
   replace H := Option.bind_eq_some_iff.mp H
   obtain ⟨t406, A70, H⟩ := H; try dsimp only at H
   have A7 := Aside0.mk A70
   clear A70
   replace H := iub_ H; rcases H with ⟨rfl, H⟩ | ⟨rfl, H⟩
   · obtain rfl := Option.some.inj H
     try go_wp2
     replace HB := Aside0.mk (below_drew1 HB.out)
     have p404 : 0 ≤ (x5_1 : Int) := od_
     have q404 : x5_1 < (l0.length : Int) := od_
     obtain ⟨ad404, e404, hx404_0, hx404_1⟩ := at_T73 HR0.out x5_1 p404 q404
     have hw404_1 := hx404_1
     have hw404_0 := hx404_0
     cases e404
     replace hx404_0 := hc_ HB hx404_0
     replace hx404_1 := hc_ HB hx404_1
     replace p404 := eq_true p404; replace q404 := eq_true q404
     have p405 : 0 ≤ (x5_1 : Int) := od_
     have q405 : x5_1 < (l1.length : Int) := od_
     obtain ⟨ad405, e405, hx405_0, hx405_1⟩ := at_T73 HR1.out x5_1 p405 q405
     have hw405_1 := hx405_1
     have hw405_0 := hx405_0
     cases e405
     replace hx405_0 := hc_ HB hx405_0
     replace hx405_1 := hc_ HB hx405_1
     replace p405 := eq_true p405; replace q405 := eq_true q405
     refine start_ (n := 10) (S := fun w' => w'.cell? (ad404.add ((x5_1).toNat * 2)) = some (.string ((rd_T73 l0 x5_1).f0)) ∧ w'.cell? ⟨(ad404.add ((x5_1).toNat * 2)).block, (ad404.add ((x5_1).toNat * 2)).off + 1, none⟩ = some (.string ((rd_T73 l0 x5_1).f1)) ∧ w'.cell? (ad405.add ((x5_1).toNat * 2)) = some (.string ((rd_T73 l1 x5_1).f0)) ∧ w'.cell? ⟨(ad405.add ((x5_1).toNat * 2)).block, (ad405.add ((x5_1).toNat * 2)).off + 1, none⟩ = some (.string ((rd_T73 l1 x5_1).f1))) (ds := []) (bm 10 0) (by kernel_rfl) rfl rfl ⟨((HB.out.cell (World.block_lt_of_cell? w _ hw404_0)).trans hw404_0), ((HB.out.cell (World.block_lt_of_cell? w _ hw404_1)).trans hw404_1), ((HB.out.cell (World.block_lt_of_cell? w _ hw405_0)).trans hw405_0), ((HB.out.cell (World.block_lt_of_cell? w _ hw405_1)).trans hw405_1)⟩ (fun hHeld => ?_); refine with_tabW laws_eqEntryS.tab6 laws_eqEntryS.bits6 (fun HT_ HW_ => ?_)
     generalize wr.drew = w11 at HB hx404_0 hx404_1 hx405_0 hx405_1 hHeld ⊢
     refine sp_ 0 (some 17) (bm 10 1) HT_ (h := ?_)
     refine sp_ 1 (some 18) (bm 10 3) HT_ (h := ?_)
     refine sp_ 2 (some 19) (bm 10 7) HT_ (h := ?_)
     refine sp_ 4 (some 21) (bm 10 23) HT_ (h := ?_)
     refine sp_ 5 (some 22) (bm 10 55) HT_ (h := ?_)
     refine sp_ 6 (some 23) (bm 10 119) HT_ (h := ?_)
     refine sr_ 3 (some 20) (bm 10 127) HT_ HW_ hHeld (h := ?_)
     refine sr_ 7 (some 24) (bm 10 255) HT_ HW_ hHeld (h := ?_)
     refine sn_ 8 (some 25) (bm 10 511) HT_ (fun K hK => ?_)
     refine goes_ Try.func61 (by kernel_rfl) rfl #[.agg #[.string ((rd_T73 l0 x5_1).f0), .string ((rd_T73 l0 x5_1).f1)], .agg #[.string ((rd_T73 l1 x5_1).f0), .string ((rd_T73 l1 x5_1).f1)]] (by rfl) rfl rfl (by (try simp only [List.map_toArray, List.map_cons, List.map_nil]); first | done | rfl | (simp only [List.length_drop, List.length_take]; rfl)) ?_
     with_reducible refine (laws_eqEntry.calls ((rd_T73 l0 x5_1).f0) ((rd_T73 l0 x5_1).f1) ((rd_T73 l1 x5_1).f0) ((rd_T73 l1 x5_1).f1) false _ A7.out).mono ?_
     rintro e w12 ⟨rfl, hb⟩
     refine ⟨_, rfl, ?_⟩
     replace HB := Aside0.mk (below_step (bl_) hb)
     (try clear hb)
     (try clear hb2)
     (try clear hk)
     (try clear hi)
     refine hK.out _ _ ⟨((HB.out.cell (World.block_lt_of_cell? w _ hw404_0)).trans hw404_0), ((HB.out.cell (World.block_lt_of_cell? w _ hw404_1)).trans hw404_1), ((HB.out.cell (World.block_lt_of_cell? w _ hw405_0)).trans hw405_0), ((HB.out.cell (World.block_lt_of_cell? w _ hw405_1)).trans hw405_1)⟩ (fun hHeld => ?_)
     clear hK K
     refine nm_ ?_
     refine sp_ 9 (some 26) (bm 10 1023) HT_ (h := ?_)
     refine done_ (done_of HT_.out (by kernel_rfl)) ?_
     try go_wp2
     go_ret
     exact ⟨rfe_, bl_⟩
   have H' := Aside0.mk H; clear H
   try go_wp2
   replace HB := Aside0.mk (below_drew1 HB.out)
   have p404 : 0 ≤ (x5_1 : Int) := od_
   have q404 : x5_1 < (l0.length : Int) := od_
   obtain ⟨ad404, e404, hx404_0, hx404_1⟩ := at_T73 HR0.out x5_1 p404 q404
   have hw404_1 := hx404_1
   have hw404_0 := hx404_0
   cases e404
   replace hx404_0 := hc_ HB hx404_0
   replace hx404_1 := hc_ HB hx404_1
   replace p404 := eq_true p404; replace q404 := eq_true q404
   have p405 : 0 ≤ (x5_1 : Int) := od_
   have q405 : x5_1 < (l1.length : Int) := od_
   obtain ⟨ad405, e405, hx405_0, hx405_1⟩ := at_T73 HR1.out x5_1 p405 q405
   have hw405_1 := hx405_1
   have hw405_0 := hx405_0
   cases e405
   replace hx405_0 := hc_ HB hx405_0
   replace hx405_1 := hc_ HB hx405_1
   replace p405 := eq_true p405; replace q405 := eq_true q405
   refine start_ (n := 10) (S := fun w' => w'.cell? (ad404.add ((x5_1).toNat * 2)) = some (.string ((rd_T73 l0 x5_1).f0)) ∧ w'.cell? ⟨(ad404.add ((x5_1).toNat * 2)).block, (ad404.add ((x5_1).toNat * 2)).off + 1, none⟩ = some (.string ((rd_T73 l0 x5_1).f1)) ∧ w'.cell? (ad405.add ((x5_1).toNat * 2)) = some (.string ((rd_T73 l1 x5_1).f0)) ∧ w'.cell? ⟨(ad405.add ((x5_1).toNat * 2)).block, (ad405.add ((x5_1).toNat * 2)).off + 1, none⟩ = some (.string ((rd_T73 l1 x5_1).f1))) (ds := []) (bm 10 0) (by kernel_rfl) rfl rfl ⟨((HB.out.cell (World.block_lt_of_cell? w _ hw404_0)).trans hw404_0), ((HB.out.cell (World.block_lt_of_cell? w _ hw404_1)).trans hw404_1), ((HB.out.cell (World.block_lt_of_cell? w _ hw405_0)).trans hw405_0), ((HB.out.cell (World.block_lt_of_cell? w _ hw405_1)).trans hw405_1)⟩ (fun hHeld => ?_); refine with_tabW laws_eqEntryS.tab6 laws_eqEntryS.bits6 (fun HT_ HW_ => ?_)
   generalize wr.drew = w9 at HB hx404_0 hx404_1 hx405_0 hx405_1 hHeld ⊢
   refine sp_ 0 (some 17) (bm 10 1) HT_ (h := ?_)
   refine sp_ 1 (some 18) (bm 10 3) HT_ (h := ?_)
   refine sp_ 2 (some 19) (bm 10 7) HT_ (h := ?_)
   refine sp_ 4 (some 21) (bm 10 23) HT_ (h := ?_)
   refine sp_ 5 (some 22) (bm 10 55) HT_ (h := ?_)
   refine sp_ 6 (some 23) (bm 10 119) HT_ (h := ?_)
   refine sr_ 3 (some 20) (bm 10 127) HT_ HW_ hHeld (h := ?_)
   refine sr_ 7 (some 24) (bm 10 255) HT_ HW_ hHeld (h := ?_)
   refine sn_ 8 (some 25) (bm 10 511) HT_ (fun K hK => ?_)
   refine goes_ Try.func61 (by kernel_rfl) rfl #[.agg #[.string ((rd_T73 l0 x5_1).f0), .string ((rd_T73 l0 x5_1).f1)], .agg #[.string ((rd_T73 l1 x5_1).f0), .string ((rd_T73 l1 x5_1).f1)]] (by rfl) rfl rfl (by (try simp only [List.map_toArray, List.map_cons, List.map_nil]); first | done | rfl | (simp only [List.length_drop, List.length_take]; rfl)) ?_
   with_reducible refine (laws_eqEntry.calls ((rd_T73 l0 x5_1).f0) ((rd_T73 l0 x5_1).f1) ((rd_T73 l1 x5_1).f0) ((rd_T73 l1 x5_1).f1) true _ A7.out).mono ?_
   rintro e w10 ⟨rfl, hb⟩
   refine ⟨_, rfl, ?_⟩
   replace HB := Aside0.mk (below_step (bl_) hb)
   (try clear hb)
   (try clear hb2)
   (try clear hk)
   (try clear hi)
   refine hK.out _ _ ⟨((HB.out.cell (World.block_lt_of_cell? w _ hw404_0)).trans hw404_0), ((HB.out.cell (World.block_lt_of_cell? w _ hw404_1)).trans hw404_1), ((HB.out.cell (World.block_lt_of_cell? w _ hw405_0)).trans hw405_0), ((HB.out.cell (World.block_lt_of_cell? w _ hw405_1)).trans hw405_1)⟩ (fun hHeld => ?_)
   clear hK K
   refine nm_ ?_
   refine sp_ 9 (some 26) (bm 10 1023) HT_ (h := ?_)
   refine done_ (done_of HT_.out (by kernel_rfl)) ?_
   try go_wp2
   go_roundg k1
   case measure => have := HK1.out; omega
   case rel => exact ⟨(wrap64 (x5_1 + 1)), rf_, H', ⟨by have := HK1.out; omega⟩, ⟨bl_⟩⟩

/-! ### laws_eqBook: function 13 -/
def laws_eqBook.f (k : Nat) (l0_0 : List (S68)) (l0_1 : List (S73)) (l1_0 : List (S68)) (l1_1 : List (S73)) : Option (Bool) := (laws_eqAffixS.f k l0_0 l1_0).bind fun t409 => (if t409 = true then ((laws_eqEntryS.f k l0_1 l1_1).bind fun t410 => (if t410 = true then (some true) else (some false))) else (some false))
theorem laws_eqBook.mono : ∀ a0 a1 a2 a3 k, LeO (laws_eqBook.f k a0 a1 a2 a3) (laws_eqBook.f (k + 1) a0 a1 a2 a3) := by
 intro a0 a1 a2 a3 k
 unfold laws_eqBook.f
 have m0 := @laws_eqAffixS.mono
 have m1 := @laws_eqEntryS.mono
 exact mn_
theorem laws_eqBook.calls (k : Nat) (A0_0 : Option Addr) (c0_0 : Nat) (l0_0 : List (S68)) (A0_1 : Option Addr) (c0_1 : Nat) (l0_1 : List (S73)) (A1_0 : Option Addr) (c1_0 : Nat) (l1_0 : List (S68)) (A1_1 : Option Addr) (c1_1 : Nat) (l1_1 : List (S73)) (r : Bool) (w : World) (hr0_0 : Kd.C k68 w A0_0 l0_0.length l0_0) (hc0_0 : l0_0.length ≤ c0_0) (hr0_1 : Kd.C k73 w A0_1 l0_1.length l0_1) (hc0_1 : l0_1.length ≤ c0_1) (hr1_0 : Kd.C k68 w A1_0 l1_0.length l1_0) (hc1_0 : l1_0.length ≤ c1_0) (hr1_1 : Kd.C k73 w A1_1 l1_1.length l1_1) (hc1_1 : l1_1.length ≤ c1_1) (h : laws_eqBook.f k l0_0 l0_1 l1_0 l1_1 = some r) :
 Calls Try.prog 13 #[.agg #[.slice A0_0 l0_0.length c0_0, .slice A0_1 l0_1.length c0_1], .agg #[.slice A1_0 l1_0.length c1_0, .slice A1_1 l1_1.length c1_1]] w fun e w' => e = .returned (.bool r) ∧ Below w.heap.size w w' := by
 have hu26 := Try.underlying26
 have HR0_0 := Aside0.mk hr0_0
 have HC0_0 := Aside0.mk hc0_0
 clear hr0_0 hc0_0
 have HR0_1 := Aside0.mk hr0_1
 have HC0_1 := Aside0.mk hc0_1
 clear hr0_1 hc0_1
 have HR1_0 := Aside0.mk hr1_0
 have HC1_0 := Aside0.mk hc1_0
 clear hr1_0 hc1_0
 have HR1_1 := Aside0.mk hr1_1
 have HC1_1 := Aside0.mk hc1_1
 clear hr1_1 hc1_1
 have HB := Aside0.mk (Below.refl w.heap.size w)
 unfold laws_eqBook.f at h; have H := h; clear h
 replace H := Option.bind_eq_some_iff.mp H
 obtain ⟨t409, A30, H⟩ := H; try dsimp only at H
 have A3 := Aside0.mk A30
 clear A30
 replace H := iub_ H; rcases H with ⟨rfl, H⟩ | ⟨rfl, H⟩
 · obtain rfl := Option.some.inj H
   go_enter Try.func13, Try.ntmps13
   go_wp2_with (first | ((with_reducible refine gate_dst (N := 2) rfl ?_); refine be_ 2 26 #[.slice A0_0 l0_0.length c0_0, .slice A0_1 l0_1.length c0_1] ?_; intro gb407 hg w25 hbox hb; have BK407 := Aside0.mk (hbox); have GW407 := Aside0.mk ((gs_ hg : w.heap.size ≤ gb407)); have GE407 := Aside0.mk ((gs_ hg : w.heap.size ≤ gb407)); replace HB := Aside0.mk (below_step (bl_) hb); clear hb hbox hg) | ((with_reducible refine gate_dst (N := 3) rfl ?_); refine be_ 3 26 #[.slice A1_0 l1_0.length c1_0, .slice A1_1 l1_1.length c1_1] ?_; intro gb408 hg w26 hbox hb; have BK408 := Aside0.mk (hbox); have GW408 := Aside0.mk ((gs_ hg : w.heap.size ≤ gb408)); have GE408 := Aside0.mk ((gs_ hg : w.heap.size ≤ gb408)); replace HB := Aside0.mk (below_step (bl_) hb); have NB407_408 := Aside0.mk ((by rw [hg]; exact Nat.ne_of_lt (blk_lt (bk_ BK407)) : gb407 ≠ gb408)); have NB408_407 := Aside0.mk ((by rw [hg]; exact Nat.ne_of_gt (blk_lt (bk_ BK407)) : gb408 ≠ gb407)); replace BK407 := Aside0.mk (blk_below (bk_ BK407) hb); clear hb hbox hg; have hnb27 := NB407_408.out; have hnc27 := NB408_407.out; have hcz28_0 := bc0_ BK407; have hcz28_1 := bc1_ BK407; have hfz28_0 := blk_frozen BK407.out 0; have hfz28_1 := blk_frozen BK407.out 1; have hcz29_0 := bc0_ BK408; have hcz29_1 := bc1_ BK408; have hfz29_0 := blk_frozen BK408.out 0; have hfz29_1 := blk_frozen BK408.out 1) | ((with_reducible refine gate_callee (f := 34) rfl ?_); refine gl_ 9 Try.func34 #[.slice A0_0 l0_0.length c0_0, .slice A1_0 l1_0.length c1_0] ?_; (with_reducible refine (laws_eqAffixS.calls k _ _ l0_0 _ _ l1_0 false _ ?side1 ?side2 ?side3 ?side4 A3.out).mono ?_); (case side1 => exact cb_ HR0_0); (case side2 => exact HC0_0.out); (case side3 => exact cb_ HR1_0); (case side4 => exact HC1_0.out); rintro e w30 ⟨rfl, hb⟩; refine ⟨_, rfl, ?_⟩; replace BK407 := Aside0.mk (blk_below (bk_ BK407) hb); replace BK408 := Aside0.mk (blk_below (bk_ BK408) hb); replace HB := Aside0.mk (below_step (bl_) hb); (try clear hb); (try clear hb2); (try clear hk); (try clear hi)))
   go_ret
   exact ⟨rfe_, bl_⟩
 replace H := Option.bind_eq_some_iff.mp H
 obtain ⟨t410, A50, H⟩ := H; try dsimp only at H
 have A5 := Aside0.mk A50
 clear A50
 replace H := itb_ H; rcases H with ⟨rfl, H⟩ | ⟨rfl, H⟩
 · obtain rfl := Option.some.inj H
   go_enter Try.func13, Try.ntmps13
   go_wp2_with (first | ((with_reducible refine gate_dst (N := 2) rfl ?_); refine be_ 2 26 #[.slice A0_0 l0_0.length c0_0, .slice A0_1 l0_1.length c0_1] ?_; intro gb407 hg w7 hbox hb; have BK407 := Aside0.mk (hbox); have GW407 := Aside0.mk ((gs_ hg : w.heap.size ≤ gb407)); have GE407 := Aside0.mk ((gs_ hg : w.heap.size ≤ gb407)); replace HB := Aside0.mk (below_step (bl_) hb); clear hb hbox hg) | ((with_reducible refine gate_dst (N := 3) rfl ?_); refine be_ 3 26 #[.slice A1_0 l1_0.length c1_0, .slice A1_1 l1_1.length c1_1] ?_; intro gb408 hg w8 hbox hb; have BK408 := Aside0.mk (hbox); have GW408 := Aside0.mk ((gs_ hg : w.heap.size ≤ gb408)); have GE408 := Aside0.mk ((gs_ hg : w.heap.size ≤ gb408)); replace HB := Aside0.mk (below_step (bl_) hb); have NB407_408 := Aside0.mk ((by rw [hg]; exact Nat.ne_of_lt (blk_lt (bk_ BK407)) : gb407 ≠ gb408)); have NB408_407 := Aside0.mk ((by rw [hg]; exact Nat.ne_of_gt (blk_lt (bk_ BK407)) : gb408 ≠ gb407)); replace BK407 := Aside0.mk (blk_below (bk_ BK407) hb); clear hb hbox hg; have hnb9 := NB407_408.out; have hnc9 := NB408_407.out; have hcz10_0 := bc0_ BK407; have hcz10_1 := bc1_ BK407; have hfz10_0 := blk_frozen BK407.out 0; have hfz10_1 := blk_frozen BK407.out 1; have hcz11_0 := bc0_ BK408; have hcz11_1 := bc1_ BK408; have hfz11_0 := blk_frozen BK408.out 0; have hfz11_1 := blk_frozen BK408.out 1) | ((with_reducible refine gate_callee (f := 34) rfl ?_); refine gl_ 9 Try.func34 #[.slice A0_0 l0_0.length c0_0, .slice A1_0 l1_0.length c1_0] ?_; (with_reducible refine (laws_eqAffixS.calls k _ _ l0_0 _ _ l1_0 true _ ?side1 ?side2 ?side3 ?side4 A3.out).mono ?_); (case side1 => exact cb_ HR0_0); (case side2 => exact HC0_0.out); (case side3 => exact cb_ HR1_0); (case side4 => exact HC1_0.out); rintro e w12 ⟨rfl, hb⟩; refine ⟨_, rfl, ?_⟩; replace BK407 := Aside0.mk (blk_below (bk_ BK407) hb); replace BK408 := Aside0.mk (blk_below (bk_ BK408) hb); replace HB := Aside0.mk (below_step (bl_) hb); (try clear hb); (try clear hb2); (try clear hk); (try clear hi); have hcz13_0 := bc0_ BK407; have hcz13_1 := bc1_ BK407; have hfz13_0 := blk_frozen BK407.out 0; have hfz13_1 := blk_frozen BK407.out 1; have hcz14_0 := bc0_ BK408; have hcz14_1 := bc1_ BK408; have hfz14_0 := blk_frozen BK408.out 0; have hfz14_1 := blk_frozen BK408.out 1) | ((with_reducible refine gate_callee (f := 35) rfl ?_); refine gl_ 15 Try.func35 #[.slice A0_1 l0_1.length c0_1, .slice A1_1 l1_1.length c1_1] ?_; (with_reducible refine (laws_eqEntryS.calls k _ _ l0_1 _ _ l1_1 true _ ?side1 ?side2 ?side3 ?side4 A5.out).mono ?_); (case side1 => exact cb_ HR0_1); (case side2 => exact HC0_1.out); (case side3 => exact cb_ HR1_1); (case side4 => exact HC1_1.out); rintro e w15 ⟨rfl, hb⟩; refine ⟨_, rfl, ?_⟩; replace BK407 := Aside0.mk (blk_below (bk_ BK407) hb); replace BK408 := Aside0.mk (blk_below (bk_ BK408) hb); replace HB := Aside0.mk (below_step (bl_) hb); (try clear hb); (try clear hb2); (try clear hk); (try clear hi)))
   go_ret
   exact ⟨rfe_, bl_⟩
 obtain rfl := Option.some.inj H
 go_enter Try.func13, Try.ntmps13
 go_wp2_with (first | ((with_reducible refine gate_dst (N := 2) rfl ?_); refine be_ 2 26 #[.slice A0_0 l0_0.length c0_0, .slice A0_1 l0_1.length c0_1] ?_; intro gb407 hg w16 hbox hb; have BK407 := Aside0.mk (hbox); have GW407 := Aside0.mk ((gs_ hg : w.heap.size ≤ gb407)); have GE407 := Aside0.mk ((gs_ hg : w.heap.size ≤ gb407)); replace HB := Aside0.mk (below_step (bl_) hb); clear hb hbox hg) | ((with_reducible refine gate_dst (N := 3) rfl ?_); refine be_ 3 26 #[.slice A1_0 l1_0.length c1_0, .slice A1_1 l1_1.length c1_1] ?_; intro gb408 hg w17 hbox hb; have BK408 := Aside0.mk (hbox); have GW408 := Aside0.mk ((gs_ hg : w.heap.size ≤ gb408)); have GE408 := Aside0.mk ((gs_ hg : w.heap.size ≤ gb408)); replace HB := Aside0.mk (below_step (bl_) hb); have NB407_408 := Aside0.mk ((by rw [hg]; exact Nat.ne_of_lt (blk_lt (bk_ BK407)) : gb407 ≠ gb408)); have NB408_407 := Aside0.mk ((by rw [hg]; exact Nat.ne_of_gt (blk_lt (bk_ BK407)) : gb408 ≠ gb407)); replace BK407 := Aside0.mk (blk_below (bk_ BK407) hb); clear hb hbox hg; have hnb18 := NB407_408.out; have hnc18 := NB408_407.out; have hcz19_0 := bc0_ BK407; have hcz19_1 := bc1_ BK407; have hfz19_0 := blk_frozen BK407.out 0; have hfz19_1 := blk_frozen BK407.out 1; have hcz20_0 := bc0_ BK408; have hcz20_1 := bc1_ BK408; have hfz20_0 := blk_frozen BK408.out 0; have hfz20_1 := blk_frozen BK408.out 1) | ((with_reducible refine gate_callee (f := 34) rfl ?_); refine gl_ 9 Try.func34 #[.slice A0_0 l0_0.length c0_0, .slice A1_0 l1_0.length c1_0] ?_; (with_reducible refine (laws_eqAffixS.calls k _ _ l0_0 _ _ l1_0 true _ ?side1 ?side2 ?side3 ?side4 A3.out).mono ?_); (case side1 => exact cb_ HR0_0); (case side2 => exact HC0_0.out); (case side3 => exact cb_ HR1_0); (case side4 => exact HC1_0.out); rintro e w21 ⟨rfl, hb⟩; refine ⟨_, rfl, ?_⟩; replace BK407 := Aside0.mk (blk_below (bk_ BK407) hb); replace BK408 := Aside0.mk (blk_below (bk_ BK408) hb); replace HB := Aside0.mk (below_step (bl_) hb); (try clear hb); (try clear hb2); (try clear hk); (try clear hi); have hcz22_0 := bc0_ BK407; have hcz22_1 := bc1_ BK407; have hfz22_0 := blk_frozen BK407.out 0; have hfz22_1 := blk_frozen BK407.out 1; have hcz23_0 := bc0_ BK408; have hcz23_1 := bc1_ BK408; have hfz23_0 := blk_frozen BK408.out 0; have hfz23_1 := blk_frozen BK408.out 1) | ((with_reducible refine gate_callee (f := 35) rfl ?_); refine gl_ 15 Try.func35 #[.slice A0_1 l0_1.length c0_1, .slice A1_1 l1_1.length c1_1] ?_; (with_reducible refine (laws_eqEntryS.calls k _ _ l0_1 _ _ l1_1 false _ ?side1 ?side2 ?side3 ?side4 A5.out).mono ?_); (case side1 => exact cb_ HR0_1); (case side2 => exact HC0_1.out); (case side3 => exact cb_ HR1_1); (case side4 => exact HC1_1.out); rintro e w24 ⟨rfl, hb⟩; refine ⟨_, rfl, ?_⟩; replace BK407 := Aside0.mk (blk_below (bk_ BK407) hb); replace BK408 := Aside0.mk (blk_below (bk_ BK408) hb); replace HB := Aside0.mk (below_step (bl_) hb); (try clear hb); (try clear hb2); (try clear hk); (try clear hi)))
 go_ret
 exact ⟨rfe_, bl_⟩

/-! ### laws_markText: function 38 -/
def laws_markText.l0 : Nat → Int → ByteArray → Option (ByteArray)
 | 0, _, _ => none
 | k + 1, x0, x3 => if x0 > 0 then ((some (([(wrap64 (48 + (Int.tmod x0 10))) % 256] : List Int) : List Int)).bind fun y411 => (if (strOfNums y411).size + x3.size ≤ 9223372036854775807 then (laws_markText.l0 k (wrap64 (Int.tdiv x0 10)) ((strOfNums y411) ++ x3)) else (none))) else (if 1 + x3.size ≤ 9223372036854775807 then (some ((⟨#[109]⟩ : ByteArray) ++ x3)) else (none))
def laws_markText.f (k : Nat) (a0 : Int) : Option (ByteArray) := if a0 ≤ 0 then (some (⟨#[109, 48]⟩ : ByteArray)) else (laws_markText.l0 k a0 (⟨#[]⟩ : ByteArray))
theorem laws_markText.mono_l : ∀ k, (∀ y0 y1, LeO (laws_markText.l0 k y0 y1) (laws_markText.l0 (k + 1) y0 y1))
 | 0 => fun _ _ r h => by simp [laws_markText.l0] at h
 | k + 1 => by
  have ih0 := laws_markText.mono_l k
  · intro y0 y1
    unfold laws_markText.l0
    exact mn_
theorem laws_markText.mono : ∀ a0 k, LeO (laws_markText.f k a0) (laws_markText.f (k + 1) a0) := by
 intro a0 k
 have ih0 := laws_markText.mono_l k
 unfold laws_markText.f
 exact mn_
theorem laws_markText.calls (k : Nat) (a0 : Int) (r : ByteArray) (w : World) (h : laws_markText.f k a0 = some r) :
 Calls Try.prog 38 #[.int .i64 a0] w fun e w' => e = .returned (.string r) ∧ Below w.heap.size w w' := by
 have HB := Aside0.mk (Below.refl w.heap.size w)
 unfold laws_markText.f at h; have H := h; clear h
 replace H := itdc_ H; rcases H with ⟨c2b0, H⟩ | ⟨c2, H⟩
 · obtain rfl := Option.some.inj H
   go_enter Try.func38, Try.ntmps38
   go_wp2
   go_ret
   exact ⟨rfe_, bl_⟩
 have c2b0 : decide (a0 ≤ 0) = false := decide_eq_false c2
 clear c2
 have H' := Aside0.mk H; clear H
 go_enter Try.func38, Try.ntmps38
 go_wp2
 go_loopg [0, 3] k (fun kq v0 v3 w' => ∃ (x0_1 : Int) (x3_1 : ByteArray), v0 = .int .i64 x0_1 ∧ v3 = .string x3_1 ∧ Aside0 (laws_markText.l0 kq x0_1 x3_1 = some r) ∧ Aside0 (kq ≤ k) ∧ Aside0 (Below w.heap.size w w'))
 case atStart => exact ⟨(a0), ((⟨#[]⟩ : ByteArray)), rf_, rf_, H', ⟨Nat.le_refl _⟩, ⟨bl_⟩⟩
 case round =>
  clear H'
  (try clear c2);(try clear c2b0);(try clear p2)
  obtain ⟨x0_1, x3_1, rfl, rfl, HA, HK1, HB⟩ := hrel
  cases gk with
  | zero => exact absurd HA.out (by simp [laws_markText.l0])
  | succ k1 =>
   have H := HA.out
   clear HA
   simp only [laws_markText.l0] at H
   replace H := iucc_ H; rcases H with ⟨c3, H⟩ | ⟨c3, H⟩
   · have c3b0 : decide (0 < x0_1) = false := decide_eq_false c3
     clear c3
     replace H := inc_ H; obtain ⟨c8, H⟩ := H
     have c8b0 := eq_true c8
     have c8b1 : decide (1 + x3_1.size ≤ 9223372036854775807) = true := decide_eq_true c8
     try have c8b2 : (9223372036854775807 < 1 + x3_1.size) = False := eq_false (Nat.not_lt.2 c8)
     obtain rfl := Option.some.inj H
     go_wp2
     go_ret
     exact ⟨rfe_, bl_⟩
   have c3b0 : decide (0 < x0_1) = true := decide_eq_true c3
   clear c3
   obtain ⟨y411, hy_⟩ : ∃ y_ : List Int, y_ = (([(wrap64 (48 + (Int.tmod x0_1 10))) % 256] : List Int)) := ⟨_, rfl⟩
   replace H : (if (strOfNums y411).size + x3_1.size ≤ 9223372036854775807 then (laws_markText.l0 k1 (wrap64 (Int.tdiv x0_1 10)) ((strOfNums y411) ++ x3_1)) else (none)) = some r := ry_
   have Ny411 := Aside0.mk hy_; clear hy_
   replace H := inc_ H; obtain ⟨c4, H⟩ := H
   have c4b0 := eq_true c4
   have c4b1 : decide ((strOfNums y411).size + x3_1.size ≤ 9223372036854775807) = true := decide_eq_true c4
   try have c4b2 : (9223372036854775807 < (strOfNums y411).size + x3_1.size) = False := eq_false (Nat.not_lt.2 c4)
   have H' := Aside0.mk H; clear H
   go_wp2_with (first | ((with_reducible refine gate_dst (N := 12) rfl ?_); refine rl_ (Kd.int .u8) 5 12 ([(wrap64 (48 + (Int.tmod x0_1 10))) % 256] : List Int) [.int .u8 ((wrap64 (48 + (Int.tmod x0_1 10))) % 256)] ?_; intro v412 w5 ho6 hb hg_ hnew_; clear hg_ hnew_; (first | rw [← Ny411.out] at ho6 | (simp only [Int.reduceToNat, Int.toNat_natCast] at ho6; rw [← Ny411.out] at ho6)); have HO413 := Aside0.mk (Kd.R_lower ho6 (below_size (bl_))); replace HB := Aside0.mk (below_step (bl_) hb); clear hb ho6; have hcv7 := own_string (P := Try.prog) Try.underlying22 Try.underlying5 Try.underlying9 (Kd.own_of_R HO413.out)))
   go_roundg k1
   case measure => have := HK1.out; omega
   case rel => exact ⟨(wrap64 (Int.tdiv x0_1 10)), ((strOfNums y411) ++ x3_1), rf_, rf_, H', ⟨by have := HK1.out; omega⟩, ⟨bl_⟩⟩

/-! ### laws_markAffixS: function 36 -/
def laws_markAffixS.l0 : Nat → List (S68) → Int → Int → Option (Int × (List (S68)))
 | 0, _, _, _ => none
 | k + 1, x0, x1, x5 => if x5 < (x0.length : Int) then ((laws_markText.f k x1).bind fun t414 => (if 0 ≤ x5 then ((some (x0.set (x5 : Int).toNat (⟨t414, (rd_T68 x0 x5).f1, (rd_T68 x0 x5).f2, (rd_T68 x0 x5).f3, (rd_T68 x0 x5).f4⟩ : S68) : List (S68))).bind fun y415 => ((some (y415.set (x5 : Int).toNat (⟨(rd_T68 y415 x5).f0, ((Int.tmod (wrap64 (x1 + 1)) 3) == 0), (rd_T68 y415 x5).f2, (rd_T68 y415 x5).f3, (rd_T68 y415 x5).f4⟩ : S68) : List (S68))).bind fun y416 => ((laws_markText.f k (wrap64 ((wrap64 (x1 + 1)) + 1))).bind fun t417 => ((some (y416.set (x5 : Int).toNat (⟨(rd_T68 y416 x5).f0, (rd_T68 y416 x5).f1, t417, (rd_T68 y416 x5).f3, (rd_T68 y416 x5).f4⟩ : S68) : List (S68))).bind fun y418 => ((laws_markText.f k (wrap64 ((wrap64 ((wrap64 (x1 + 1)) + 1)) + 1))).bind fun t419 => ((some (y418.set (x5 : Int).toNat (⟨(rd_T68 y418 x5).f0, (rd_T68 y418 x5).f1, (rd_T68 y418 x5).f2, t419, (rd_T68 y418 x5).f4⟩ : S68) : List (S68))).bind fun y420 => ((laws_markText.f k (wrap64 ((wrap64 ((wrap64 ((wrap64 (x1 + 1)) + 1)) + 1)) + 1))).bind fun t421 => (laws_markAffixS.l0 k (y420.set (x5 : Int).toNat (⟨(rd_T68 y420 x5).f0, (rd_T68 y420 x5).f1, (rd_T68 y420 x5).f2, (rd_T68 y420 x5).f3, t421⟩ : S68)) (wrap64 ((wrap64 ((wrap64 ((wrap64 ((wrap64 (x1 + 1)) + 1)) + 1)) + 1)) + 1)) (wrap64 (x5 + 1)))))))))) else (none))) else (some (x1, x0))
def laws_markAffixS.f (k : Nat) (l0 : List (S68)) (a1 : Int) : Option (Int × (List (S68))) := laws_markAffixS.l0 k l0 a1 0
theorem laws_markAffixS.mono_l : ∀ k, (∀ y0 y1 y2, LeO (laws_markAffixS.l0 k y0 y1 y2) (laws_markAffixS.l0 (k + 1) y0 y1 y2))
 | 0 => fun _ _ _ r h => by simp [laws_markAffixS.l0] at h
 | k + 1 => by
  have ih0 := laws_markAffixS.mono_l k
  · intro y0 y1 y2
    unfold laws_markAffixS.l0
    have m0 := @laws_markText.mono
    exact mn_
theorem laws_markAffixS.mono : ∀ a0 a1 k, LeO (laws_markAffixS.f k a0 a1) (laws_markAffixS.f (k + 1) a0 a1) := by
 intro a0 a1 k
 have ih0 := laws_markAffixS.mono_l k
 unfold laws_markAffixS.f
 have m0 := @laws_markText.mono
 exact mn_
theorem laws_markAffixS.calls (k : Nat) (P0_ : Nat → Prop) (u9000_ : Value) (l0 : List (S68)) (a1 : Int) (r1 : Int) (r2 : List (S68)) (w0 w : World) (hB : Below w0.heap.size w0 w) (ho0 : Kd.R k68 68 w w0.heap.size P0_ u9000_ l0) (h : laws_markAffixS.f k l0 a1 = some (r1, r2)) :
 Calls Try.prog 36 #[u9000_, .int .i64 a1] w fun e w' => e = .returned (.int .i64 r1) ∧ Kd.R k68 68 w' w0.heap.size (fun k_ => (P0_ k_ ∨ w.heap.size ≤ k_)) u9000_ r2 ∧ Below w0.heap.size w0 w' ∧ Kept w w' (fun k_ => P0_ k_) := by
 have HO0 := Aside0.mk (show Kd.R k68 68 w w0.heap.size (fun k_ => (P0_ k_ ∨ w.heap.size ≤ k_)) u9000_ l0 from Kd.R_mono ho0 (fun k_ hk => (.inl hk)))
 have HK := Aside0.mk (Kept.refl w (fun k_ => P0_ k_))
 have HW0 := Aside0.mk hB.size
 have HB := Aside0.mk hB
 clear hB
 unfold laws_markAffixS.f at h; have H := h; clear h
 have H' := Aside0.mk H; clear H
 go_enter Try.func36, Try.ntmps36
 go_wp2
 go_loopg [1, 5] k (fun kq v1 v5 w' => ∃ (x0_1 : List (S68)) (x1_1 : Int) (x5_1 : Int), v1 = .int .i64 x1_1 ∧ v5 = .int .i64 x5_1 ∧ Aside0 (laws_markAffixS.l0 kq x0_1 x1_1 x5_1 = some (r1, r2)) ∧ Aside0 (kq ≤ k) ∧ Aside0 (Kd.R k68 68 w' w0.heap.size (fun k_ => (P0_ k_ ∨ w.heap.size ≤ k_)) u9000_ x0_1) ∧ Aside0 (Kept w w' (fun k_ => P0_ k_)) ∧ Aside0 (Below w0.heap.size w0 w'))
 case atStart => exact ⟨(l0), (a1), (0), rf_, rf_, H', ⟨Nat.le_refl _⟩, ⟨kR_ HO0⟩, ⟨by repeat (first | (with_reducible first | exact HK.out | apply Kept.alloc | apply Kept.drewN | apply Kept.drew) | exact HK.out)⟩, ⟨bl_⟩⟩
 case round =>
  clear H'
  try clear p2
  obtain ⟨x0_1, x1_1, x5_1, rfl, rfl, HA, HK1, HO_0, HK, HB⟩ := hrel
  cases gk with
  | zero => exact absurd HA.out (by simp [laws_markAffixS.l0])
  | succ k1 =>
   have H := HA.out
   clear HA
   simp only [laws_markAffixS.l0] at H
   replace H := iudd_ H; rcases H with ⟨c3b0, H⟩ | ⟨c3b0, H⟩
   · simp only [Option.some.injEq, Prod.mk.injEq] at H
     obtain ⟨rfl, rfl⟩ := H
     obtain ⟨Ao29, co29, eo29⟩ := Kd.R_slice HO_0.out
     subst eo29
     go_wp2
     go_ret
     exact ⟨rfe_, kR_ HO_0, bl_, by repeat (first | (with_reducible first | exact HK.out | apply Kept.alloc | apply Kept.drewN | apply Kept.drew) | exact HK.out)⟩
   replace H := Option.bind_eq_some_iff.mp H
   obtain ⟨t414, A40, H⟩ := H; try dsimp only at H
   have A4 := Aside0.mk A40
   clear A40
   replace H := ind_ H; obtain ⟨c5b0, H⟩ := H
   obtain ⟨y415, hy_⟩ : ∃ y_ : List (S68), y_ = (x0_1.set (x5_1 : Int).toNat (⟨t414, (rd_T68 x0_1 x5_1).f1, (rd_T68 x0_1 x5_1).f2, (rd_T68 x0_1 x5_1).f3, (rd_T68 x0_1 x5_1).f4⟩ : S68)) := ⟨_, rfl⟩
   replace H : ((some (y415.set (x5_1 : Int).toNat (⟨(rd_T68 y415 x5_1).f0, ((Int.tmod (wrap64 (x1_1 + 1)) 3) == 0), (rd_T68 y415 x5_1).f2, (rd_T68 y415 x5_1).f3, (rd_T68 y415 x5_1).f4⟩ : S68) : List (S68))).bind fun y416 => ((laws_markText.f k1 (wrap64 ((wrap64 (x1_1 + 1)) + 1))).bind fun t417 => ((some (y416.set (x5_1 : Int).toNat (⟨(rd_T68 y416 x5_1).f0, (rd_T68 y416 x5_1).f1, t417, (rd_T68 y416 x5_1).f3, (rd_T68 y416 x5_1).f4⟩ : S68) : List (S68))).bind fun y418 => ((laws_markText.f k1 (wrap64 ((wrap64 ((wrap64 (x1_1 + 1)) + 1)) + 1))).bind fun t419 => ((some (y418.set (x5_1 : Int).toNat (⟨(rd_T68 y418 x5_1).f0, (rd_T68 y418 x5_1).f1, (rd_T68 y418 x5_1).f2, t419, (rd_T68 y418 x5_1).f4⟩ : S68) : List (S68))).bind fun y420 => ((laws_markText.f k1 (wrap64 ((wrap64 ((wrap64 ((wrap64 (x1_1 + 1)) + 1)) + 1)) + 1))).bind fun t421 => (laws_markAffixS.l0 k1 (y420.set (x5_1 : Int).toNat (⟨(rd_T68 y420 x5_1).f0, (rd_T68 y420 x5_1).f1, (rd_T68 y420 x5_1).f2, (rd_T68 y420 x5_1).f3, t421⟩ : S68)) (wrap64 ((wrap64 ((wrap64 ((wrap64 ((wrap64 (x1_1 + 1)) + 1)) + 1)) + 1)) + 1)) (wrap64 (x5_1 + 1))))))))) = some (r1, r2) := ry_
   have Ny415 := Aside0.mk hy_; clear hy_
   obtain ⟨y416, hy_⟩ : ∃ y_ : List (S68), y_ = (y415.set (x5_1 : Int).toNat (⟨(rd_T68 y415 x5_1).f0, ((Int.tmod (wrap64 (x1_1 + 1)) 3) == 0), (rd_T68 y415 x5_1).f2, (rd_T68 y415 x5_1).f3, (rd_T68 y415 x5_1).f4⟩ : S68)) := ⟨_, rfl⟩
   replace H : ((laws_markText.f k1 (wrap64 ((wrap64 (x1_1 + 1)) + 1))).bind fun t417 => ((some (y416.set (x5_1 : Int).toNat (⟨(rd_T68 y416 x5_1).f0, (rd_T68 y416 x5_1).f1, t417, (rd_T68 y416 x5_1).f3, (rd_T68 y416 x5_1).f4⟩ : S68) : List (S68))).bind fun y418 => ((laws_markText.f k1 (wrap64 ((wrap64 ((wrap64 (x1_1 + 1)) + 1)) + 1))).bind fun t419 => ((some (y418.set (x5_1 : Int).toNat (⟨(rd_T68 y418 x5_1).f0, (rd_T68 y418 x5_1).f1, (rd_T68 y418 x5_1).f2, t419, (rd_T68 y418 x5_1).f4⟩ : S68) : List (S68))).bind fun y420 => ((laws_markText.f k1 (wrap64 ((wrap64 ((wrap64 ((wrap64 (x1_1 + 1)) + 1)) + 1)) + 1))).bind fun t421 => (laws_markAffixS.l0 k1 (y420.set (x5_1 : Int).toNat (⟨(rd_T68 y420 x5_1).f0, (rd_T68 y420 x5_1).f1, (rd_T68 y420 x5_1).f2, (rd_T68 y420 x5_1).f3, t421⟩ : S68)) (wrap64 ((wrap64 ((wrap64 ((wrap64 ((wrap64 (x1_1 + 1)) + 1)) + 1)) + 1)) + 1)) (wrap64 (x5_1 + 1)))))))) = some (r1, r2) := ry_
   have Ny416 := Aside0.mk hy_; clear hy_
   replace H := Option.bind_eq_some_iff.mp H
   obtain ⟨t417, A80, H⟩ := H; try dsimp only at H
   have A8 := Aside0.mk A80
   clear A80
   obtain ⟨y418, hy_⟩ : ∃ y_ : List (S68), y_ = (y416.set (x5_1 : Int).toNat (⟨(rd_T68 y416 x5_1).f0, (rd_T68 y416 x5_1).f1, t417, (rd_T68 y416 x5_1).f3, (rd_T68 y416 x5_1).f4⟩ : S68)) := ⟨_, rfl⟩
   replace H : ((laws_markText.f k1 (wrap64 ((wrap64 ((wrap64 (x1_1 + 1)) + 1)) + 1))).bind fun t419 => ((some (y418.set (x5_1 : Int).toNat (⟨(rd_T68 y418 x5_1).f0, (rd_T68 y418 x5_1).f1, (rd_T68 y418 x5_1).f2, t419, (rd_T68 y418 x5_1).f4⟩ : S68) : List (S68))).bind fun y420 => ((laws_markText.f k1 (wrap64 ((wrap64 ((wrap64 ((wrap64 (x1_1 + 1)) + 1)) + 1)) + 1))).bind fun t421 => (laws_markAffixS.l0 k1 (y420.set (x5_1 : Int).toNat (⟨(rd_T68 y420 x5_1).f0, (rd_T68 y420 x5_1).f1, (rd_T68 y420 x5_1).f2, (rd_T68 y420 x5_1).f3, t421⟩ : S68)) (wrap64 ((wrap64 ((wrap64 ((wrap64 ((wrap64 (x1_1 + 1)) + 1)) + 1)) + 1)) + 1)) (wrap64 (x5_1 + 1)))))) = some (r1, r2) := ry_
   have Ny418 := Aside0.mk hy_; clear hy_
   replace H := Option.bind_eq_some_iff.mp H
   obtain ⟨t419, A100, H⟩ := H; try dsimp only at H
   have A10 := Aside0.mk A100
   clear A100
   obtain ⟨y420, hy_⟩ : ∃ y_ : List (S68), y_ = (y418.set (x5_1 : Int).toNat (⟨(rd_T68 y418 x5_1).f0, (rd_T68 y418 x5_1).f1, (rd_T68 y418 x5_1).f2, t419, (rd_T68 y418 x5_1).f4⟩ : S68)) := ⟨_, rfl⟩
   replace H : ((laws_markText.f k1 (wrap64 ((wrap64 ((wrap64 ((wrap64 (x1_1 + 1)) + 1)) + 1)) + 1))).bind fun t421 => (laws_markAffixS.l0 k1 (y420.set (x5_1 : Int).toNat (⟨(rd_T68 y420 x5_1).f0, (rd_T68 y420 x5_1).f1, (rd_T68 y420 x5_1).f2, (rd_T68 y420 x5_1).f3, t421⟩ : S68)) (wrap64 ((wrap64 ((wrap64 ((wrap64 ((wrap64 (x1_1 + 1)) + 1)) + 1)) + 1)) + 1)) (wrap64 (x5_1 + 1)))) = some (r1, r2) := ry_
   have Ny420 := Aside0.mk hy_; clear hy_
   replace H := Option.bind_eq_some_iff.mp H
   obtain ⟨t421, A120, H⟩ := H; try dsimp only at H
   have A12 := Aside0.mk A120
   clear A120
   obtain ⟨y422, hy_⟩ : ∃ y_ : List (S68), y_ = (y420.set (x5_1 : Int).toNat (⟨(rd_T68 y420 x5_1).f0, (rd_T68 y420 x5_1).f1, (rd_T68 y420 x5_1).f2, (rd_T68 y420 x5_1).f3, t421⟩ : S68)) := ⟨_, rfl⟩
   replace H : (laws_markAffixS.l0 k1 y422 (wrap64 ((wrap64 ((wrap64 ((wrap64 ((wrap64 (x1_1 + 1)) + 1)) + 1)) + 1)) + 1)) (wrap64 (x5_1 + 1))) = some (r1, r2) := ry_
   have Ny422 := Aside0.mk hy_; clear hy_
   have H' := Aside0.mk H; clear H
   obtain ⟨Ao14, co14, eo14⟩ := Kd.R_slice HO_0.out
   subst eo14
   go_wp2_with (first | ((with_reducible refine gate_callee (f := 38) rfl ?_); refine gl_ 15 Try.func38 #[.int .i64 x1_1] ?_; (with_reducible refine (laws_markText.calls k1 x1_1 t414 _ A4.out).mono ?_); rintro e w15 ⟨rfl, hb⟩; refine ⟨_, rfl, ?_⟩; replace HO_0 := Aside0.mk (Kd.R_below (kR_ HO_0) hb); replace HK := Aside0.mk (Kept.below (S := (fun k_ => P0_ k_)) (by repeat (first | (with_reducible first | exact HK.out | apply Kept.alloc | apply Kept.drewN | apply Kept.drew) | exact HK.out)) hb); replace HB := Aside0.mk (below_step (bl_) hb); (try clear hb); (try clear hb2); (try clear hk); (try clear hi); have p6 : 0 ≤ (x5_1 : Int) := od_; have q6 : (x5_1 : Int) < ((x0_1.length : Int) : Int) := od_; obtain ⟨go6, co6, eo6, gb6, gl6, cl6, HG6⟩ := Kd.R_form HO_0.out (by omega); (first | cases eo6 | (injection eo6 with ea_ en_ ec_; (first | subst ea_ | (injection ea_ with ea_; subst ea_)); subst ec_; clear en_)); have GB6 := Aside0.mk gb6; have GG6 := Aside0.mk HG6; clear gb6 gl6 HG6; have HMgo6 := Aside0.mk (show (P0_ go6 ∨ w.heap.size ≤ go6) from (HO_0.out.1 _ rfl)); obtain ⟨ce6, hcl6, hM6, hcc6, hfr6⟩ := Kd.R_elem HO_0.out z68 (x5_1 : Int) p6 q6; obtain rfl := k68_openM hM6; have hx6_0 : w15.cell? ⟨go6, (x5_1 : Int).toNat * 5, none⟩ = some (.string ((rd_T68 x0_1 x5_1).f0)) := hcc6 0 _ rfl; have hx6_1 : w15.cell? ⟨go6, (x5_1 : Int).toNat * 5 + 1, none⟩ = some (.bool ((rd_T68 x0_1 x5_1).f1)) := hcc6 1 _ rfl; have hx6_2 : w15.cell? ⟨go6, (x5_1 : Int).toNat * 5 + 2, none⟩ = some (.string ((rd_T68 x0_1 x5_1).f2)) := hcc6 2 _ rfl; have hx6_3 : w15.cell? ⟨go6, (x5_1 : Int).toNat * 5 + 3, none⟩ = some (.string ((rd_T68 x0_1 x5_1).f3)) := hcc6 3 _ rfl; have hx6_4 : w15.cell? ⟨go6, (x5_1 : Int).toNat * 5 + 4, none⟩ = some (.string ((rd_T68 x0_1 x5_1).f4)) := hcc6 4 _ rfl; have hf6_0 : w15.frozen? ⟨go6, (x5_1 : Int).toNat * 5, none⟩ = false := hfr6 0; have hf6_1 : w15.frozen? ⟨go6, (x5_1 : Int).toNat * 5 + 1, none⟩ = false := hfr6 1; have hf6_2 : w15.frozen? ⟨go6, (x5_1 : Int).toNat * 5 + 2, none⟩ = false := hfr6 2; have hf6_3 : w15.frozen? ⟨go6, (x5_1 : Int).toNat * 5 + 3, none⟩ = false := hfr6 3; have hf6_4 : w15.frozen? ⟨go6, (x5_1 : Int).toNat * 5 + 4, none⟩ = false := hfr6 4; clear hcl6 hcc6 hfr6 hM6; replace p6 := eq_true p6; replace q6 := eq_true q6; have HX16 := Aside0.mk (show Kd.R k68 68 w15 w0.heap.size (fun k_ => (P0_ k_ ∨ w.heap.size ≤ k_)) (.slice (some ⟨go6, 0, none⟩) x0_1.length co14) x0_1 from (kR_ HO_0)); obtain ⟨ce16, hcl16, hM16, hcc16, hfr16⟩ := Kd.R_elem HX16.out z68 (x5_1 : Int) (od_) (by have h_ : (x5_1 : Int) < ((x0_1.length : Int) : Int) := od_; first | exact h_ | (have e_ := (Kd.R_reads' HO_0.out).1; omega) | simpa using h_); obtain rfl := k68_openM hM16; have HP16 := Kd.R_seg HX16.out (x5_1 : Int) (od_) (by have h_ : (x5_1 : Int) < ((x0_1.length : Int) : Int) := od_; first | exact h_ | (have e_ := (Kd.R_reads' HO_0.out).1; omega) | simpa using h_) (seg := [.string t414]) (j := 0) hcl16 hcc16 (show 1 ≤ 5 from by decide) (x' := (⟨t414, (rd_T68 x0_1 x5_1).f1, (rd_T68 x0_1 x5_1).f2, (rd_T68 x0_1 x5_1).f3, (rd_T68 x0_1 x5_1).f4⟩ : S68)) (k68_mkM _ _ _ (⟨t414, (rd_T68 x0_1 x5_1).f1, (rd_T68 x0_1 x5_1).f2, (rd_T68 x0_1 x5_1).f3, (rd_T68 x0_1 x5_1).f4⟩ : S68) ) (fun _ hk => hk); have hx16_0 := hcc16 0 _ rfl; (try simp only [show (k68).sz = 5 from rfl, Nat.mul_one, Nat.add_zero] at hx16_0); have hf16_0 := hfr16 0; (try simp only [show (k68).sz = 5 from rfl, Nat.mul_one, Nat.add_zero] at hf16_0); clear hcl16 hcc16 hfr16 hM16) | ((with_reducible refine gate_store (t := 9) (p := 17) rfl ?_); refine store_event (t := 9) (p := 17) (v := ?vo_w17) (w1 := (w15.setCell ⟨go6, (x5_1 : Int).toNat * 5, none⟩ (.string t414))) ?hg ?ho ?hn ?hr ?_; (case ho => rfl); (case hg => rfl); (case hn => rfl); (case hr => first | (go_simp; done) | (go_simp; rfl)); intro w17 hw; have hg : w15.grownBy w17 (some go6) := (by rw [hw]; exact HP16.2); have hp_ : Kd.R k68 68 w17 w0.heap.size (fun k_ => (P0_ k_ ∨ w.heap.size ≤ k_)) (.slice (some ⟨go6, 0, none⟩) x0_1.length co14) y415 := (by rw [hw, Ny415.out]; exact HP16.1); clear HP16; replace HB := Aside0.mk ((by rw [hw]; exact below_set (HB.out) GB6.out : Below w0.heap.size w0 w17)); replace HK := Aside0.mk (Kept.of_grown (S := (fun k_ => P0_ k_)) hg (by repeat (first | (with_reducible first | exact HK.out | apply Kept.alloc | apply Kept.drewN | apply Kept.drew) | exact HK.out)) (fun k_ e_ => (HO_0.out.1 k_ e_))); replace HO_0 := Aside0.mk (hp_); clear hg hw hp_; have p7 : 0 ≤ (x5_1 : Int) := od_; have q7 : (x5_1 : Int) < ((x0_1.length : Int) : Int) := od_; obtain ⟨ce7, hcl7, hM7, hcc7, hfr7⟩ := Kd.R_elem HO_0.out z68 (x5_1 : Int) p7 q7; obtain rfl := k68_openM hM7; have hx7_0 : w17.cell? ⟨go6, (x5_1 : Int).toNat * 5, none⟩ = some (.string ((rd_T68 y415 x5_1).f0)) := hcc7 0 _ rfl; have hx7_1 : w17.cell? ⟨go6, (x5_1 : Int).toNat * 5 + 1, none⟩ = some (.bool ((rd_T68 y415 x5_1).f1)) := hcc7 1 _ rfl; have hx7_2 : w17.cell? ⟨go6, (x5_1 : Int).toNat * 5 + 2, none⟩ = some (.string ((rd_T68 y415 x5_1).f2)) := hcc7 2 _ rfl; have hx7_3 : w17.cell? ⟨go6, (x5_1 : Int).toNat * 5 + 3, none⟩ = some (.string ((rd_T68 y415 x5_1).f3)) := hcc7 3 _ rfl; have hx7_4 : w17.cell? ⟨go6, (x5_1 : Int).toNat * 5 + 4, none⟩ = some (.string ((rd_T68 y415 x5_1).f4)) := hcc7 4 _ rfl; have hf7_0 : w17.frozen? ⟨go6, (x5_1 : Int).toNat * 5, none⟩ = false := hfr7 0; have hf7_1 : w17.frozen? ⟨go6, (x5_1 : Int).toNat * 5 + 1, none⟩ = false := hfr7 1; have hf7_2 : w17.frozen? ⟨go6, (x5_1 : Int).toNat * 5 + 2, none⟩ = false := hfr7 2; have hf7_3 : w17.frozen? ⟨go6, (x5_1 : Int).toNat * 5 + 3, none⟩ = false := hfr7 3; have hf7_4 : w17.frozen? ⟨go6, (x5_1 : Int).toNat * 5 + 4, none⟩ = false := hfr7 4; clear hcl7 hcc7 hfr7 hM7; replace p7 := eq_true p7; replace q7 := eq_true q7; have HX18 := Aside0.mk (show Kd.R k68 68 w17 w0.heap.size (fun k_ => (P0_ k_ ∨ w.heap.size ≤ k_)) (.slice (some ⟨go6, 0, none⟩) x0_1.length co14) y415 from (kR_ HO_0)); obtain ⟨ce18, hcl18, hM18, hcc18, hfr18⟩ := Kd.R_elem HX18.out z68 (x5_1 : Int) (od_) (by have h_ : (x5_1 : Int) < ((x0_1.length : Int) : Int) := od_; first | exact h_ | (have e_ := (Kd.R_reads' HO_0.out).1; omega) | simpa using h_); obtain rfl := k68_openM hM18; have HP18 := Kd.R_seg HX18.out (x5_1 : Int) (od_) (by have h_ : (x5_1 : Int) < ((x0_1.length : Int) : Int) := od_; first | exact h_ | (have e_ := (Kd.R_reads' HO_0.out).1; omega) | simpa using h_) (seg := [.bool ((Int.tmod (wrap64 (x1_1 + 1)) 3) == 0)]) (j := 1) hcl18 hcc18 (show 2 ≤ 5 from by decide) (x' := (⟨(rd_T68 y415 x5_1).f0, ((Int.tmod (wrap64 (x1_1 + 1)) 3) == 0), (rd_T68 y415 x5_1).f2, (rd_T68 y415 x5_1).f3, (rd_T68 y415 x5_1).f4⟩ : S68)) (k68_mkM _ _ _ (⟨(rd_T68 y415 x5_1).f0, ((Int.tmod (wrap64 (x1_1 + 1)) 3) == 0), (rd_T68 y415 x5_1).f2, (rd_T68 y415 x5_1).f3, (rd_T68 y415 x5_1).f4⟩ : S68) ) (fun _ hk => hk); have hx18_1 := hcc18 1 _ rfl; (try simp only [show (k68).sz = 5 from rfl, Nat.mul_one, Nat.add_zero] at hx18_1); have hf18_1 := hfr18 1; (try simp only [show (k68).sz = 5 from rfl, Nat.mul_one, Nat.add_zero] at hf18_1); clear hcl18 hcc18 hfr18 hM18) | ((with_reducible refine gate_store (t := 4) (p := 26) rfl ?_); refine store_event (t := 4) (p := 26) (v := ?vo_w19) (w1 := (w17.setCell ⟨go6, (x5_1 : Int).toNat * 5 + 1, none⟩ (.bool ((Int.tmod (wrap64 (x1_1 + 1)) 3) == 0)))) ?hg ?ho ?hn ?hr ?_; (case ho => rfl); (case hg => rfl); (case hn => rfl); (case hr => first | (go_simp; done) | (go_simp; rfl)); intro w19 hw; have hg : w17.grownBy w19 (some go6) := (by rw [hw]; exact HP18.2); have hp_ : Kd.R k68 68 w19 w0.heap.size (fun k_ => (P0_ k_ ∨ w.heap.size ≤ k_)) (.slice (some ⟨go6, 0, none⟩) x0_1.length co14) y416 := (by rw [hw, Ny416.out]; exact HP18.1); clear HP18; replace HB := Aside0.mk ((by rw [hw]; exact below_set (HB.out) GB6.out : Below w0.heap.size w0 w19)); replace HK := Aside0.mk (Kept.of_grown (S := (fun k_ => P0_ k_)) hg (by repeat (first | (with_reducible first | exact HK.out | apply Kept.alloc | apply Kept.drewN | apply Kept.drew) | exact HK.out)) (fun k_ e_ => (HO_0.out.1 k_ e_))); replace HO_0 := Aside0.mk (hp_); clear hg hw hp_) | ((with_reducible refine gate_callee (f := 38) rfl ?_); refine gl_ 32 Try.func38 #[.int .i64 (wrap64 ((wrap64 (x1_1 + 1)) + 1))] ?_; (with_reducible refine (laws_markText.calls k1 (wrap64 ((wrap64 (x1_1 + 1)) + 1)) t417 _ A8.out).mono ?_); rintro e w20 ⟨rfl, hb⟩; refine ⟨_, rfl, ?_⟩; replace HO_0 := Aside0.mk (Kd.R_below (kR_ HO_0) hb); replace HK := Aside0.mk (Kept.below (S := (fun k_ => P0_ k_)) (by repeat (first | (with_reducible first | exact HK.out | apply Kept.alloc | apply Kept.drewN | apply Kept.drew) | exact HK.out)) hb); replace HB := Aside0.mk (below_step (bl_) hb); (try clear hb); (try clear hb2); (try clear hk); (try clear hi); have p9 : 0 ≤ (x5_1 : Int) := od_; have q9 : (x5_1 : Int) < ((x0_1.length : Int) : Int) := od_; obtain ⟨ce9, hcl9, hM9, hcc9, hfr9⟩ := Kd.R_elem HO_0.out z68 (x5_1 : Int) p9 q9; obtain rfl := k68_openM hM9; have hx9_0 : w20.cell? ⟨go6, (x5_1 : Int).toNat * 5, none⟩ = some (.string ((rd_T68 y416 x5_1).f0)) := hcc9 0 _ rfl; have hx9_1 : w20.cell? ⟨go6, (x5_1 : Int).toNat * 5 + 1, none⟩ = some (.bool ((rd_T68 y416 x5_1).f1)) := hcc9 1 _ rfl; have hx9_2 : w20.cell? ⟨go6, (x5_1 : Int).toNat * 5 + 2, none⟩ = some (.string ((rd_T68 y416 x5_1).f2)) := hcc9 2 _ rfl; have hx9_3 : w20.cell? ⟨go6, (x5_1 : Int).toNat * 5 + 3, none⟩ = some (.string ((rd_T68 y416 x5_1).f3)) := hcc9 3 _ rfl; have hx9_4 : w20.cell? ⟨go6, (x5_1 : Int).toNat * 5 + 4, none⟩ = some (.string ((rd_T68 y416 x5_1).f4)) := hcc9 4 _ rfl; have hf9_0 : w20.frozen? ⟨go6, (x5_1 : Int).toNat * 5, none⟩ = false := hfr9 0; have hf9_1 : w20.frozen? ⟨go6, (x5_1 : Int).toNat * 5 + 1, none⟩ = false := hfr9 1; have hf9_2 : w20.frozen? ⟨go6, (x5_1 : Int).toNat * 5 + 2, none⟩ = false := hfr9 2; have hf9_3 : w20.frozen? ⟨go6, (x5_1 : Int).toNat * 5 + 3, none⟩ = false := hfr9 3; have hf9_4 : w20.frozen? ⟨go6, (x5_1 : Int).toNat * 5 + 4, none⟩ = false := hfr9 4; clear hcl9 hcc9 hfr9 hM9; replace p9 := eq_true p9; replace q9 := eq_true q9; have HX21 := Aside0.mk (show Kd.R k68 68 w20 w0.heap.size (fun k_ => (P0_ k_ ∨ w.heap.size ≤ k_)) (.slice (some ⟨go6, 0, none⟩) x0_1.length co14) y416 from (kR_ HO_0)); obtain ⟨ce21, hcl21, hM21, hcc21, hfr21⟩ := Kd.R_elem HX21.out z68 (x5_1 : Int) (od_) (by have h_ : (x5_1 : Int) < ((x0_1.length : Int) : Int) := od_; first | exact h_ | (have e_ := (Kd.R_reads' HO_0.out).1; omega) | simpa using h_); obtain rfl := k68_openM hM21; have HP21 := Kd.R_seg HX21.out (x5_1 : Int) (od_) (by have h_ : (x5_1 : Int) < ((x0_1.length : Int) : Int) := od_; first | exact h_ | (have e_ := (Kd.R_reads' HO_0.out).1; omega) | simpa using h_) (seg := [.string t417]) (j := 2) hcl21 hcc21 (show 3 ≤ 5 from by decide) (x' := (⟨(rd_T68 y416 x5_1).f0, (rd_T68 y416 x5_1).f1, t417, (rd_T68 y416 x5_1).f3, (rd_T68 y416 x5_1).f4⟩ : S68)) (k68_mkM _ _ _ (⟨(rd_T68 y416 x5_1).f0, (rd_T68 y416 x5_1).f1, t417, (rd_T68 y416 x5_1).f3, (rd_T68 y416 x5_1).f4⟩ : S68) ) (fun _ hk => hk); have hx21_2 := hcc21 2 _ rfl; (try simp only [show (k68).sz = 5 from rfl, Nat.mul_one, Nat.add_zero] at hx21_2); have hf21_2 := hfr21 2; (try simp only [show (k68).sz = 5 from rfl, Nat.mul_one, Nat.add_zero] at hf21_2); clear hcl21 hcc21 hfr21 hM21) | ((with_reducible refine gate_store (t := 9) (p := 34) rfl ?_); refine store_event (t := 9) (p := 34) (v := ?vo_w22) (w1 := (w20.setCell ⟨go6, (x5_1 : Int).toNat * 5 + 2, none⟩ (.string t417))) ?hg ?ho ?hn ?hr ?_; (case ho => rfl); (case hg => rfl); (case hn => rfl); (case hr => first | (go_simp; done) | (go_simp; rfl)); intro w22 hw; have hg : w20.grownBy w22 (some go6) := (by rw [hw]; exact HP21.2); have hp_ : Kd.R k68 68 w22 w0.heap.size (fun k_ => (P0_ k_ ∨ w.heap.size ≤ k_)) (.slice (some ⟨go6, 0, none⟩) x0_1.length co14) y418 := (by rw [hw, Ny418.out]; exact HP21.1); clear HP21; replace HB := Aside0.mk ((by rw [hw]; exact below_set (HB.out) GB6.out : Below w0.heap.size w0 w22)); replace HK := Aside0.mk (Kept.of_grown (S := (fun k_ => P0_ k_)) hg (by repeat (first | (with_reducible first | exact HK.out | apply Kept.alloc | apply Kept.drewN | apply Kept.drew) | exact HK.out)) (fun k_ e_ => (HO_0.out.1 k_ e_))); replace HO_0 := Aside0.mk (hp_); clear hg hw hp_) | ((with_reducible refine gate_callee (f := 38) rfl ?_); refine gl_ 40 Try.func38 #[.int .i64 (wrap64 ((wrap64 ((wrap64 (x1_1 + 1)) + 1)) + 1))] ?_; (with_reducible refine (laws_markText.calls k1 (wrap64 ((wrap64 ((wrap64 (x1_1 + 1)) + 1)) + 1)) t419 _ A10.out).mono ?_); rintro e w23 ⟨rfl, hb⟩; refine ⟨_, rfl, ?_⟩; replace HO_0 := Aside0.mk (Kd.R_below (kR_ HO_0) hb); replace HK := Aside0.mk (Kept.below (S := (fun k_ => P0_ k_)) (by repeat (first | (with_reducible first | exact HK.out | apply Kept.alloc | apply Kept.drewN | apply Kept.drew) | exact HK.out)) hb); replace HB := Aside0.mk (below_step (bl_) hb); (try clear hb); (try clear hb2); (try clear hk); (try clear hi); have p11 : 0 ≤ (x5_1 : Int) := od_; have q11 : (x5_1 : Int) < ((x0_1.length : Int) : Int) := od_; obtain ⟨ce11, hcl11, hM11, hcc11, hfr11⟩ := Kd.R_elem HO_0.out z68 (x5_1 : Int) p11 q11; obtain rfl := k68_openM hM11; have hx11_0 : w23.cell? ⟨go6, (x5_1 : Int).toNat * 5, none⟩ = some (.string ((rd_T68 y418 x5_1).f0)) := hcc11 0 _ rfl; have hx11_1 : w23.cell? ⟨go6, (x5_1 : Int).toNat * 5 + 1, none⟩ = some (.bool ((rd_T68 y418 x5_1).f1)) := hcc11 1 _ rfl; have hx11_2 : w23.cell? ⟨go6, (x5_1 : Int).toNat * 5 + 2, none⟩ = some (.string ((rd_T68 y418 x5_1).f2)) := hcc11 2 _ rfl; have hx11_3 : w23.cell? ⟨go6, (x5_1 : Int).toNat * 5 + 3, none⟩ = some (.string ((rd_T68 y418 x5_1).f3)) := hcc11 3 _ rfl; have hx11_4 : w23.cell? ⟨go6, (x5_1 : Int).toNat * 5 + 4, none⟩ = some (.string ((rd_T68 y418 x5_1).f4)) := hcc11 4 _ rfl; have hf11_0 : w23.frozen? ⟨go6, (x5_1 : Int).toNat * 5, none⟩ = false := hfr11 0; have hf11_1 : w23.frozen? ⟨go6, (x5_1 : Int).toNat * 5 + 1, none⟩ = false := hfr11 1; have hf11_2 : w23.frozen? ⟨go6, (x5_1 : Int).toNat * 5 + 2, none⟩ = false := hfr11 2; have hf11_3 : w23.frozen? ⟨go6, (x5_1 : Int).toNat * 5 + 3, none⟩ = false := hfr11 3; have hf11_4 : w23.frozen? ⟨go6, (x5_1 : Int).toNat * 5 + 4, none⟩ = false := hfr11 4; clear hcl11 hcc11 hfr11 hM11; replace p11 := eq_true p11; replace q11 := eq_true q11; have HX24 := Aside0.mk (show Kd.R k68 68 w23 w0.heap.size (fun k_ => (P0_ k_ ∨ w.heap.size ≤ k_)) (.slice (some ⟨go6, 0, none⟩) x0_1.length co14) y418 from (kR_ HO_0)); obtain ⟨ce24, hcl24, hM24, hcc24, hfr24⟩ := Kd.R_elem HX24.out z68 (x5_1 : Int) (od_) (by have h_ : (x5_1 : Int) < ((x0_1.length : Int) : Int) := od_; first | exact h_ | (have e_ := (Kd.R_reads' HO_0.out).1; omega) | simpa using h_); obtain rfl := k68_openM hM24; have HP24 := Kd.R_seg HX24.out (x5_1 : Int) (od_) (by have h_ : (x5_1 : Int) < ((x0_1.length : Int) : Int) := od_; first | exact h_ | (have e_ := (Kd.R_reads' HO_0.out).1; omega) | simpa using h_) (seg := [.string t419]) (j := 3) hcl24 hcc24 (show 4 ≤ 5 from by decide) (x' := (⟨(rd_T68 y418 x5_1).f0, (rd_T68 y418 x5_1).f1, (rd_T68 y418 x5_1).f2, t419, (rd_T68 y418 x5_1).f4⟩ : S68)) (k68_mkM _ _ _ (⟨(rd_T68 y418 x5_1).f0, (rd_T68 y418 x5_1).f1, (rd_T68 y418 x5_1).f2, t419, (rd_T68 y418 x5_1).f4⟩ : S68) ) (fun _ hk => hk); have hx24_3 := hcc24 3 _ rfl; (try simp only [show (k68).sz = 5 from rfl, Nat.mul_one, Nat.add_zero] at hx24_3); have hf24_3 := hfr24 3; (try simp only [show (k68).sz = 5 from rfl, Nat.mul_one, Nat.add_zero] at hf24_3); clear hcl24 hcc24 hfr24 hM24) | ((with_reducible refine gate_store (t := 9) (p := 42) rfl ?_); refine store_event (t := 9) (p := 42) (v := ?vo_w25) (w1 := (w23.setCell ⟨go6, (x5_1 : Int).toNat * 5 + 3, none⟩ (.string t419))) ?hg ?ho ?hn ?hr ?_; (case ho => rfl); (case hg => rfl); (case hn => rfl); (case hr => first | (go_simp; done) | (go_simp; rfl)); intro w25 hw; have hg : w23.grownBy w25 (some go6) := (by rw [hw]; exact HP24.2); have hp_ : Kd.R k68 68 w25 w0.heap.size (fun k_ => (P0_ k_ ∨ w.heap.size ≤ k_)) (.slice (some ⟨go6, 0, none⟩) x0_1.length co14) y420 := (by rw [hw, Ny420.out]; exact HP24.1); clear HP24; replace HB := Aside0.mk ((by rw [hw]; exact below_set (HB.out) GB6.out : Below w0.heap.size w0 w25)); replace HK := Aside0.mk (Kept.of_grown (S := (fun k_ => P0_ k_)) hg (by repeat (first | (with_reducible first | exact HK.out | apply Kept.alloc | apply Kept.drewN | apply Kept.drew) | exact HK.out)) (fun k_ e_ => (HO_0.out.1 k_ e_))); replace HO_0 := Aside0.mk (hp_); clear hg hw hp_) | ((with_reducible refine gate_callee (f := 38) rfl ?_); refine gl_ 48 Try.func38 #[.int .i64 (wrap64 ((wrap64 ((wrap64 ((wrap64 (x1_1 + 1)) + 1)) + 1)) + 1))] ?_; (with_reducible refine (laws_markText.calls k1 (wrap64 ((wrap64 ((wrap64 ((wrap64 (x1_1 + 1)) + 1)) + 1)) + 1)) t421 _ A12.out).mono ?_); rintro e w26 ⟨rfl, hb⟩; refine ⟨_, rfl, ?_⟩; replace HO_0 := Aside0.mk (Kd.R_below (kR_ HO_0) hb); replace HK := Aside0.mk (Kept.below (S := (fun k_ => P0_ k_)) (by repeat (first | (with_reducible first | exact HK.out | apply Kept.alloc | apply Kept.drewN | apply Kept.drew) | exact HK.out)) hb); replace HB := Aside0.mk (below_step (bl_) hb); (try clear hb); (try clear hb2); (try clear hk); (try clear hi); have p13 : 0 ≤ (x5_1 : Int) := od_; have q13 : (x5_1 : Int) < ((x0_1.length : Int) : Int) := od_; obtain ⟨ce13, hcl13, hM13, hcc13, hfr13⟩ := Kd.R_elem HO_0.out z68 (x5_1 : Int) p13 q13; obtain rfl := k68_openM hM13; have hx13_0 : w26.cell? ⟨go6, (x5_1 : Int).toNat * 5, none⟩ = some (.string ((rd_T68 y420 x5_1).f0)) := hcc13 0 _ rfl; have hx13_1 : w26.cell? ⟨go6, (x5_1 : Int).toNat * 5 + 1, none⟩ = some (.bool ((rd_T68 y420 x5_1).f1)) := hcc13 1 _ rfl; have hx13_2 : w26.cell? ⟨go6, (x5_1 : Int).toNat * 5 + 2, none⟩ = some (.string ((rd_T68 y420 x5_1).f2)) := hcc13 2 _ rfl; have hx13_3 : w26.cell? ⟨go6, (x5_1 : Int).toNat * 5 + 3, none⟩ = some (.string ((rd_T68 y420 x5_1).f3)) := hcc13 3 _ rfl; have hx13_4 : w26.cell? ⟨go6, (x5_1 : Int).toNat * 5 + 4, none⟩ = some (.string ((rd_T68 y420 x5_1).f4)) := hcc13 4 _ rfl; have hf13_0 : w26.frozen? ⟨go6, (x5_1 : Int).toNat * 5, none⟩ = false := hfr13 0; have hf13_1 : w26.frozen? ⟨go6, (x5_1 : Int).toNat * 5 + 1, none⟩ = false := hfr13 1; have hf13_2 : w26.frozen? ⟨go6, (x5_1 : Int).toNat * 5 + 2, none⟩ = false := hfr13 2; have hf13_3 : w26.frozen? ⟨go6, (x5_1 : Int).toNat * 5 + 3, none⟩ = false := hfr13 3; have hf13_4 : w26.frozen? ⟨go6, (x5_1 : Int).toNat * 5 + 4, none⟩ = false := hfr13 4; clear hcl13 hcc13 hfr13 hM13; replace p13 := eq_true p13; replace q13 := eq_true q13; have HX27 := Aside0.mk (show Kd.R k68 68 w26 w0.heap.size (fun k_ => (P0_ k_ ∨ w.heap.size ≤ k_)) (.slice (some ⟨go6, 0, none⟩) x0_1.length co14) y420 from (kR_ HO_0)); obtain ⟨ce27, hcl27, hM27, hcc27, hfr27⟩ := Kd.R_elem HX27.out z68 (x5_1 : Int) (od_) (by have h_ : (x5_1 : Int) < ((x0_1.length : Int) : Int) := od_; first | exact h_ | (have e_ := (Kd.R_reads' HO_0.out).1; omega) | simpa using h_); obtain rfl := k68_openM hM27; have HP27 := Kd.R_seg HX27.out (x5_1 : Int) (od_) (by have h_ : (x5_1 : Int) < ((x0_1.length : Int) : Int) := od_; first | exact h_ | (have e_ := (Kd.R_reads' HO_0.out).1; omega) | simpa using h_) (seg := [.string t421]) (j := 4) hcl27 hcc27 (show 5 ≤ 5 from by decide) (x' := (⟨(rd_T68 y420 x5_1).f0, (rd_T68 y420 x5_1).f1, (rd_T68 y420 x5_1).f2, (rd_T68 y420 x5_1).f3, t421⟩ : S68)) (k68_mkM _ _ _ (⟨(rd_T68 y420 x5_1).f0, (rd_T68 y420 x5_1).f1, (rd_T68 y420 x5_1).f2, (rd_T68 y420 x5_1).f3, t421⟩ : S68) ) (fun _ hk => hk); have hx27_4 := hcc27 4 _ rfl; (try simp only [show (k68).sz = 5 from rfl, Nat.mul_one, Nat.add_zero] at hx27_4); have hf27_4 := hfr27 4; (try simp only [show (k68).sz = 5 from rfl, Nat.mul_one, Nat.add_zero] at hf27_4); clear hcl27 hcc27 hfr27 hM27) | ((with_reducible refine gate_store (t := 9) (p := 50) rfl ?_); refine store_event (t := 9) (p := 50) (v := ?vo_w28) (w1 := (w26.setCell ⟨go6, (x5_1 : Int).toNat * 5 + 4, none⟩ (.string t421))) ?hg ?ho ?hn ?hr ?_; (case ho => rfl); (case hg => rfl); (case hn => rfl); (case hr => first | (go_simp; done) | (go_simp; rfl)); intro w28 hw; have hg : w26.grownBy w28 (some go6) := (by rw [hw]; exact HP27.2); have hp_ : Kd.R k68 68 w28 w0.heap.size (fun k_ => (P0_ k_ ∨ w.heap.size ≤ k_)) (.slice (some ⟨go6, 0, none⟩) x0_1.length co14) y422 := (by rw [hw, Ny422.out]; exact HP27.1); clear HP27; replace HB := Aside0.mk ((by rw [hw]; exact below_set (HB.out) GB6.out : Below w0.heap.size w0 w28)); replace HK := Aside0.mk (Kept.of_grown (S := (fun k_ => P0_ k_)) hg (by repeat (first | (with_reducible first | exact HK.out | apply Kept.alloc | apply Kept.drewN | apply Kept.drew) | exact HK.out)) (fun k_ e_ => (HO_0.out.1 k_ e_))); replace HO_0 := Aside0.mk (hp_); clear hg hw hp_))
   go_roundg k1
   case measure => have := HK1.out; omega
   case rel => exact ⟨(y422), (wrap64 ((wrap64 ((wrap64 ((wrap64 ((wrap64 (x1_1 + 1)) + 1)) + 1)) + 1)) + 1)), (wrap64 (x5_1 + 1)), rf_, rf_, H', ⟨by have := HK1.out; omega⟩, ⟨kR_ HO_0⟩, ⟨by repeat (first | (with_reducible first | exact HK.out | apply Kept.alloc | apply Kept.drewN | apply Kept.drew) | exact HK.out)⟩, ⟨bl_⟩⟩

/-! ### laws_markEntryS: function 37 -/
def laws_markEntryS.l0 : Nat → List (S73) → Int → Int → Option (Int × (List (S73)))
 | 0, _, _, _ => none
 | k + 1, x0, x1, x5 => if x5 < (x0.length : Int) then ((laws_markText.f k x1).bind fun t423 => (if 0 ≤ x5 then ((some (x0.set (x5 : Int).toNat (⟨t423, (rd_T73 x0 x5).f1⟩ : S73) : List (S73))).bind fun y424 => ((laws_markText.f k (wrap64 (x1 + 1))).bind fun t425 => (laws_markEntryS.l0 k (y424.set (x5 : Int).toNat (⟨(rd_T73 y424 x5).f0, t425⟩ : S73)) (wrap64 ((wrap64 (x1 + 1)) + 1)) (wrap64 (x5 + 1))))) else (none))) else (some (x1, x0))
def laws_markEntryS.f (k : Nat) (l0 : List (S73)) (a1 : Int) : Option (Int × (List (S73))) := laws_markEntryS.l0 k l0 a1 0
theorem laws_markEntryS.mono_l : ∀ k, (∀ y0 y1 y2, LeO (laws_markEntryS.l0 k y0 y1 y2) (laws_markEntryS.l0 (k + 1) y0 y1 y2))
 | 0 => fun _ _ _ r h => by simp [laws_markEntryS.l0] at h
 | k + 1 => by
  have ih0 := laws_markEntryS.mono_l k
  · intro y0 y1 y2
    unfold laws_markEntryS.l0
    have m0 := @laws_markText.mono
    exact mn_
theorem laws_markEntryS.mono : ∀ a0 a1 k, LeO (laws_markEntryS.f k a0 a1) (laws_markEntryS.f (k + 1) a0 a1) := by
 intro a0 a1 k
 have ih0 := laws_markEntryS.mono_l k
 unfold laws_markEntryS.f
 have m0 := @laws_markText.mono
 exact mn_
theorem laws_markEntryS.calls (k : Nat) (P0_ : Nat → Prop) (u9000_ : Value) (l0 : List (S73)) (a1 : Int) (r1 : Int) (r2 : List (S73)) (w0 w : World) (hB : Below w0.heap.size w0 w) (ho0 : Kd.R k73 73 w w0.heap.size P0_ u9000_ l0) (h : laws_markEntryS.f k l0 a1 = some (r1, r2)) :
 Calls Try.prog 37 #[u9000_, .int .i64 a1] w fun e w' => e = .returned (.int .i64 r1) ∧ Kd.R k73 73 w' w0.heap.size (fun k_ => (P0_ k_ ∨ w.heap.size ≤ k_)) u9000_ r2 ∧ Below w0.heap.size w0 w' ∧ Kept w w' (fun k_ => P0_ k_) := by
 have HO0 := Aside0.mk (show Kd.R k73 73 w w0.heap.size (fun k_ => (P0_ k_ ∨ w.heap.size ≤ k_)) u9000_ l0 from Kd.R_mono ho0 (fun k_ hk => (.inl hk)))
 have HK := Aside0.mk (Kept.refl w (fun k_ => P0_ k_))
 have HW0 := Aside0.mk hB.size
 have HB := Aside0.mk hB
 clear hB
 unfold laws_markEntryS.f at h; have H := h; clear h
 have H' := Aside0.mk H; clear H
 go_enter Try.func37, Try.ntmps37
 go_wp2
 go_loopg [1, 5] k (fun kq v1 v5 w' => ∃ (x0_1 : List (S73)) (x1_1 : Int) (x5_1 : Int), v1 = .int .i64 x1_1 ∧ v5 = .int .i64 x5_1 ∧ Aside0 (laws_markEntryS.l0 kq x0_1 x1_1 x5_1 = some (r1, r2)) ∧ Aside0 (kq ≤ k) ∧ Aside0 (Kd.R k73 73 w' w0.heap.size (fun k_ => (P0_ k_ ∨ w.heap.size ≤ k_)) u9000_ x0_1) ∧ Aside0 (Kept w w' (fun k_ => P0_ k_)) ∧ Aside0 (Below w0.heap.size w0 w'))
 case atStart => exact ⟨(l0), (a1), (0), rf_, rf_, H', ⟨Nat.le_refl _⟩, ⟨kR_ HO0⟩, ⟨by repeat (first | (with_reducible first | exact HK.out | apply Kept.alloc | apply Kept.drewN | apply Kept.drew) | exact HK.out)⟩, ⟨bl_⟩⟩
 case round =>
  clear H'
  try clear p2
  obtain ⟨x0_1, x1_1, x5_1, rfl, rfl, HA, HK1, HO_0, HK, HB⟩ := hrel
  cases gk with
  | zero => exact absurd HA.out (by simp [laws_markEntryS.l0])
  | succ k1 =>
   have H := HA.out
   clear HA
   simp only [laws_markEntryS.l0] at H
   replace H := iudd_ H; rcases H with ⟨c3b0, H⟩ | ⟨c3b0, H⟩
   · simp only [Option.some.injEq, Prod.mk.injEq] at H
     obtain ⟨rfl, rfl⟩ := H
     obtain ⟨Ao16, co16, eo16⟩ := Kd.R_slice HO_0.out
     subst eo16
     go_wp2
     go_ret
     exact ⟨rfe_, kR_ HO_0, bl_, by repeat (first | (with_reducible first | exact HK.out | apply Kept.alloc | apply Kept.drewN | apply Kept.drew) | exact HK.out)⟩
   replace H := Option.bind_eq_some_iff.mp H
   obtain ⟨t423, A40, H⟩ := H; try dsimp only at H
   have A4 := Aside0.mk A40
   clear A40
   replace H := ind_ H; obtain ⟨c5b0, H⟩ := H
   obtain ⟨y424, hy_⟩ : ∃ y_ : List (S73), y_ = (x0_1.set (x5_1 : Int).toNat (⟨t423, (rd_T73 x0_1 x5_1).f1⟩ : S73)) := ⟨_, rfl⟩
   replace H : ((laws_markText.f k1 (wrap64 (x1_1 + 1))).bind fun t425 => (laws_markEntryS.l0 k1 (y424.set (x5_1 : Int).toNat (⟨(rd_T73 y424 x5_1).f0, t425⟩ : S73)) (wrap64 ((wrap64 (x1_1 + 1)) + 1)) (wrap64 (x5_1 + 1)))) = some (r1, r2) := ry_
   have Ny424 := Aside0.mk hy_; clear hy_
   replace H := Option.bind_eq_some_iff.mp H
   obtain ⟨t425, A70, H⟩ := H; try dsimp only at H
   have A7 := Aside0.mk A70
   clear A70
   obtain ⟨y426, hy_⟩ : ∃ y_ : List (S73), y_ = (y424.set (x5_1 : Int).toNat (⟨(rd_T73 y424 x5_1).f0, t425⟩ : S73)) := ⟨_, rfl⟩
   replace H : (laws_markEntryS.l0 k1 y426 (wrap64 ((wrap64 (x1_1 + 1)) + 1)) (wrap64 (x5_1 + 1))) = some (r1, r2) := ry_
   have Ny426 := Aside0.mk hy_; clear hy_
   have H' := Aside0.mk H; clear H
   obtain ⟨Ao9, co9, eo9⟩ := Kd.R_slice HO_0.out
   subst eo9
   go_wp2_with (first | ((with_reducible refine gate_callee (f := 38) rfl ?_); refine gl_ 15 Try.func38 #[.int .i64 x1_1] ?_; (with_reducible refine (laws_markText.calls k1 x1_1 t423 _ A4.out).mono ?_); rintro e w10 ⟨rfl, hb⟩; refine ⟨_, rfl, ?_⟩; replace HO_0 := Aside0.mk (Kd.R_below (kR_ HO_0) hb); replace HK := Aside0.mk (Kept.below (S := (fun k_ => P0_ k_)) (by repeat (first | (with_reducible first | exact HK.out | apply Kept.alloc | apply Kept.drewN | apply Kept.drew) | exact HK.out)) hb); replace HB := Aside0.mk (below_step (bl_) hb); (try clear hb); (try clear hb2); (try clear hk); (try clear hi); have p6 : 0 ≤ (x5_1 : Int) := od_; have q6 : (x5_1 : Int) < ((x0_1.length : Int) : Int) := od_; obtain ⟨go6, co6, eo6, gb6, gl6, cl6, HG6⟩ := Kd.R_form HO_0.out (by omega); (first | cases eo6 | (injection eo6 with ea_ en_ ec_; (first | subst ea_ | (injection ea_ with ea_; subst ea_)); subst ec_; clear en_)); have GB6 := Aside0.mk gb6; have GG6 := Aside0.mk HG6; clear gb6 gl6 HG6; have HMgo6 := Aside0.mk (show (P0_ go6 ∨ w.heap.size ≤ go6) from (HO_0.out.1 _ rfl)); obtain ⟨ce6, hcl6, hM6, hcc6, hfr6⟩ := Kd.R_elem HO_0.out z73 (x5_1 : Int) p6 q6; obtain rfl := k73_openM hM6; have hx6_0 : w10.cell? ⟨go6, (x5_1 : Int).toNat * 2, none⟩ = some (.string ((rd_T73 x0_1 x5_1).f0)) := hcc6 0 _ rfl; have hx6_1 : w10.cell? ⟨go6, (x5_1 : Int).toNat * 2 + 1, none⟩ = some (.string ((rd_T73 x0_1 x5_1).f1)) := hcc6 1 _ rfl; have hf6_0 : w10.frozen? ⟨go6, (x5_1 : Int).toNat * 2, none⟩ = false := hfr6 0; have hf6_1 : w10.frozen? ⟨go6, (x5_1 : Int).toNat * 2 + 1, none⟩ = false := hfr6 1; clear hcl6 hcc6 hfr6 hM6; replace p6 := eq_true p6; replace q6 := eq_true q6; have HX11 := Aside0.mk (show Kd.R k73 73 w10 w0.heap.size (fun k_ => (P0_ k_ ∨ w.heap.size ≤ k_)) (.slice (some ⟨go6, 0, none⟩) x0_1.length co9) x0_1 from (kR_ HO_0)); obtain ⟨ce11, hcl11, hM11, hcc11, hfr11⟩ := Kd.R_elem HX11.out z73 (x5_1 : Int) (od_) (by have h_ : (x5_1 : Int) < ((x0_1.length : Int) : Int) := od_; first | exact h_ | (have e_ := (Kd.R_reads' HO_0.out).1; omega) | simpa using h_); obtain rfl := k73_openM hM11; have HP11 := Kd.R_seg HX11.out (x5_1 : Int) (od_) (by have h_ : (x5_1 : Int) < ((x0_1.length : Int) : Int) := od_; first | exact h_ | (have e_ := (Kd.R_reads' HO_0.out).1; omega) | simpa using h_) (seg := [.string t423]) (j := 0) hcl11 hcc11 (show 1 ≤ 2 from by decide) (x' := (⟨t423, (rd_T73 x0_1 x5_1).f1⟩ : S73)) (k73_mkM _ _ _ (⟨t423, (rd_T73 x0_1 x5_1).f1⟩ : S73) ) (fun _ hk => hk); have hx11_0 := hcc11 0 _ rfl; (try simp only [show (k73).sz = 2 from rfl, Nat.mul_one, Nat.add_zero] at hx11_0); have hf11_0 := hfr11 0; (try simp only [show (k73).sz = 2 from rfl, Nat.mul_one, Nat.add_zero] at hf11_0); clear hcl11 hcc11 hfr11 hM11) | ((with_reducible refine gate_store (t := 9) (p := 17) rfl ?_); refine store_event (t := 9) (p := 17) (v := ?vo_w12) (w1 := (w10.setCell ⟨go6, (x5_1 : Int).toNat * 2, none⟩ (.string t423))) ?hg ?ho ?hn ?hr ?_; (case ho => rfl); (case hg => rfl); (case hn => rfl); (case hr => first | (go_simp; done) | (go_simp; rfl)); intro w12 hw; have hg : w10.grownBy w12 (some go6) := (by rw [hw]; exact HP11.2); have hp_ : Kd.R k73 73 w12 w0.heap.size (fun k_ => (P0_ k_ ∨ w.heap.size ≤ k_)) (.slice (some ⟨go6, 0, none⟩) x0_1.length co9) y424 := (by rw [hw, Ny424.out]; exact HP11.1); clear HP11; replace HB := Aside0.mk ((by rw [hw]; exact below_set (HB.out) GB6.out : Below w0.heap.size w0 w12)); replace HK := Aside0.mk (Kept.of_grown (S := (fun k_ => P0_ k_)) hg (by repeat (first | (with_reducible first | exact HK.out | apply Kept.alloc | apply Kept.drewN | apply Kept.drew) | exact HK.out)) (fun k_ e_ => (HO_0.out.1 k_ e_))); replace HO_0 := Aside0.mk (hp_); clear hg hw hp_) | ((with_reducible refine gate_callee (f := 38) rfl ?_); refine gl_ 23 Try.func38 #[.int .i64 (wrap64 (x1_1 + 1))] ?_; (with_reducible refine (laws_markText.calls k1 (wrap64 (x1_1 + 1)) t425 _ A7.out).mono ?_); rintro e w13 ⟨rfl, hb⟩; refine ⟨_, rfl, ?_⟩; replace HO_0 := Aside0.mk (Kd.R_below (kR_ HO_0) hb); replace HK := Aside0.mk (Kept.below (S := (fun k_ => P0_ k_)) (by repeat (first | (with_reducible first | exact HK.out | apply Kept.alloc | apply Kept.drewN | apply Kept.drew) | exact HK.out)) hb); replace HB := Aside0.mk (below_step (bl_) hb); (try clear hb); (try clear hb2); (try clear hk); (try clear hi); have p8 : 0 ≤ (x5_1 : Int) := od_; have q8 : (x5_1 : Int) < ((x0_1.length : Int) : Int) := od_; obtain ⟨ce8, hcl8, hM8, hcc8, hfr8⟩ := Kd.R_elem HO_0.out z73 (x5_1 : Int) p8 q8; obtain rfl := k73_openM hM8; have hx8_0 : w13.cell? ⟨go6, (x5_1 : Int).toNat * 2, none⟩ = some (.string ((rd_T73 y424 x5_1).f0)) := hcc8 0 _ rfl; have hx8_1 : w13.cell? ⟨go6, (x5_1 : Int).toNat * 2 + 1, none⟩ = some (.string ((rd_T73 y424 x5_1).f1)) := hcc8 1 _ rfl; have hf8_0 : w13.frozen? ⟨go6, (x5_1 : Int).toNat * 2, none⟩ = false := hfr8 0; have hf8_1 : w13.frozen? ⟨go6, (x5_1 : Int).toNat * 2 + 1, none⟩ = false := hfr8 1; clear hcl8 hcc8 hfr8 hM8; replace p8 := eq_true p8; replace q8 := eq_true q8; have HX14 := Aside0.mk (show Kd.R k73 73 w13 w0.heap.size (fun k_ => (P0_ k_ ∨ w.heap.size ≤ k_)) (.slice (some ⟨go6, 0, none⟩) x0_1.length co9) y424 from (kR_ HO_0)); obtain ⟨ce14, hcl14, hM14, hcc14, hfr14⟩ := Kd.R_elem HX14.out z73 (x5_1 : Int) (od_) (by have h_ : (x5_1 : Int) < ((x0_1.length : Int) : Int) := od_; first | exact h_ | (have e_ := (Kd.R_reads' HO_0.out).1; omega) | simpa using h_); obtain rfl := k73_openM hM14; have HP14 := Kd.R_seg HX14.out (x5_1 : Int) (od_) (by have h_ : (x5_1 : Int) < ((x0_1.length : Int) : Int) := od_; first | exact h_ | (have e_ := (Kd.R_reads' HO_0.out).1; omega) | simpa using h_) (seg := [.string t425]) (j := 1) hcl14 hcc14 (show 2 ≤ 2 from by decide) (x' := (⟨(rd_T73 y424 x5_1).f0, t425⟩ : S73)) (k73_mkM _ _ _ (⟨(rd_T73 y424 x5_1).f0, t425⟩ : S73) ) (fun _ hk => hk); have hx14_1 := hcc14 1 _ rfl; (try simp only [show (k73).sz = 2 from rfl, Nat.mul_one, Nat.add_zero] at hx14_1); have hf14_1 := hfr14 1; (try simp only [show (k73).sz = 2 from rfl, Nat.mul_one, Nat.add_zero] at hf14_1); clear hcl14 hcc14 hfr14 hM14) | ((with_reducible refine gate_store (t := 9) (p := 25) rfl ?_); refine store_event (t := 9) (p := 25) (v := ?vo_w15) (w1 := (w13.setCell ⟨go6, (x5_1 : Int).toNat * 2 + 1, none⟩ (.string t425))) ?hg ?ho ?hn ?hr ?_; (case ho => rfl); (case hg => rfl); (case hn => rfl); (case hr => first | (go_simp; done) | (go_simp; rfl)); intro w15 hw; have hg : w13.grownBy w15 (some go6) := (by rw [hw]; exact HP14.2); have hp_ : Kd.R k73 73 w15 w0.heap.size (fun k_ => (P0_ k_ ∨ w.heap.size ≤ k_)) (.slice (some ⟨go6, 0, none⟩) x0_1.length co9) y426 := (by rw [hw, Ny426.out]; exact HP14.1); clear HP14; replace HB := Aside0.mk ((by rw [hw]; exact below_set (HB.out) GB6.out : Below w0.heap.size w0 w15)); replace HK := Aside0.mk (Kept.of_grown (S := (fun k_ => P0_ k_)) hg (by repeat (first | (with_reducible first | exact HK.out | apply Kept.alloc | apply Kept.drewN | apply Kept.drew) | exact HK.out)) (fun k_ e_ => (HO_0.out.1 k_ e_))); replace HO_0 := Aside0.mk (hp_); clear hg hw hp_))
   go_roundg k1
   case measure => have := HK1.out; omega
   case rel => exact ⟨(y426), (wrap64 ((wrap64 (x1_1 + 1)) + 1)), (wrap64 (x5_1 + 1)), rf_, rf_, H', ⟨by have := HK1.out; omega⟩, ⟨kR_ HO_0⟩, ⟨by repeat (first | (with_reducible first | exact HK.out | apply Kept.alloc | apply Kept.drewN | apply Kept.drew) | exact HK.out)⟩, ⟨bl_⟩⟩

/-! ### laws_markBook: function 14 -/
def laws_markBook.f (k : Nat) (l0_0 : List (S68)) (l0_1 : List (S73)) (a1 : Int) : Option (Int × (List (S68)) × (List (S73))) := (laws_markAffixS.f k l0_0 a1).bind fun bt428 => ((laws_markEntryS.f k l0_1 bt428.1).bind fun bt430 => (some (bt430.1, bt428.2, bt430.2)))
theorem laws_markBook.mono : ∀ a0 a1 a2 k, LeO (laws_markBook.f k a0 a1 a2) (laws_markBook.f (k + 1) a0 a1 a2) := by
 intro a0 a1 a2 k
 unfold laws_markBook.f
 have m0 := @laws_markAffixS.mono
 have m1 := @laws_markEntryS.mono
 exact mn_
theorem laws_markBook.calls (k : Nat) (P0_0_ : Nat → Prop) (u9000_ : Value) (l0_0 : List (S68)) (P0_1_ : Nat → Prop) (u9001_ : Value) (l0_1 : List (S73)) (a1 : Int) (r1 : Int) (r2 : List (S68)) (r3 : List (S73)) (w0 w : World) (hB : Below w0.heap.size w0 w) (ho0_0 : Kd.R k68 68 w w0.heap.size P0_0_ u9000_ l0_0) (ho0_1 : Kd.R k73 73 w w0.heap.size P0_1_ u9001_ l0_1) (h : laws_markBook.f k l0_0 l0_1 a1 = some (r1, r2, r3)) :
 Calls Try.prog 14 #[.agg #[u9000_, u9001_], .int .i64 a1] w fun e w' => e = .returned (.int .i64 r1) ∧ Kd.R k68 68 w' w0.heap.size (fun k_ => ((P0_0_ k_ ∨ P0_1_ k_) ∨ w.heap.size ≤ k_)) u9000_ r2 ∧ Kd.R k73 73 w' w0.heap.size (fun k_ => ((P0_0_ k_ ∨ P0_1_ k_) ∨ w.heap.size ≤ k_)) u9001_ r3 ∧ Below w0.heap.size w0 w' ∧ Kept w w' (fun k_ => P0_0_ k_ ∨ P0_1_ k_) := by
 have hu26 := Try.underlying26
 have HO0_0 := Aside0.mk (show Kd.R k68 68 w w0.heap.size (fun k_ => ((P0_0_ k_ ∨ P0_1_ k_) ∨ w.heap.size ≤ k_)) u9000_ l0_0 from Kd.R_mono ho0_0 (fun k_ hk => (.inl (.inl hk))))
 have HO0_1 := Aside0.mk (show Kd.R k73 73 w w0.heap.size (fun k_ => ((P0_0_ k_ ∨ P0_1_ k_) ∨ w.heap.size ≤ k_)) u9001_ l0_1 from Kd.R_mono ho0_1 (fun k_ hk => (.inl (.inr hk))))
 have HK := Aside0.mk (Kept.refl w (fun k_ => P0_0_ k_ ∨ P0_1_ k_))
 have HW0 := Aside0.mk hB.size
 have HB := Aside0.mk hB
 clear hB
 unfold laws_markBook.f at h; have H := h; clear h
 replace H := Option.bind_eq_some_iff.mp H
 obtain ⟨⟨t428, t429⟩, A30, H⟩ := H; try dsimp only at H
 have A3 := Aside0.mk A30
 clear A30
 replace H := Option.bind_eq_some_iff.mp H
 obtain ⟨⟨t430, t431⟩, A40, H⟩ := H; try dsimp only at H
 have A4 := Aside0.mk A40
 clear A40
 simp only [Option.some.injEq, Prod.mk.injEq] at H
 obtain ⟨rfl, rfl, rfl⟩ := H
 obtain ⟨Ao5, co5, eo5⟩ := Kd.R_slice HO0_0.out
 subst eo5
 obtain ⟨Ao6, co6, eo6⟩ := Kd.R_slice HO0_1.out
 subst eo6
 go_enter Try.func14, Try.ntmps14
 go_wp2_with (first | ((with_reducible refine gate_dst (N := 2) rfl ?_); refine be_ 2 26 #[.slice Ao5 l0_0.length co5, .slice Ao6 l0_1.length co6] ?_; intro gb427 hg w7 hbox hb; replace HO0_0 := Aside0.mk (Kd.R_below (kR_ HO0_0) hb); replace HO0_1 := Aside0.mk (Kd.R_below (kR_ HO0_1) hb); have BK427 := Aside0.mk (hbox); have GW427 := Aside0.mk ((by rw [hg]; exact (by first | exact HK.out.1 | exact (show Kept w _ (fun k_ => P0_0_ k_ ∨ P0_1_ k_) from by repeat (first | (with_reducible first | exact HK.out | apply Kept.alloc | apply Kept.drewN | apply Kept.drew) | exact HK.out)).1) : w.heap.size ≤ gb427)); replace HK := Aside0.mk (Kept.below (S := (fun k_ => P0_0_ k_ ∨ P0_1_ k_)) (by repeat (first | (with_reducible first | exact HK.out | apply Kept.alloc | apply Kept.drewN | apply Kept.drew) | exact HK.out)) hb); have GE427 := Aside0.mk ((gs_ hg : w0.heap.size ≤ gb427)); replace HB := Aside0.mk (below_step (bl_) hb); clear hb hbox hg; have hcz8_0 := bc0_ BK427; have hcz8_1 := bc1_ BK427; have hfz8_0 := blk_frozen BK427.out 0; have hfz8_1 := blk_frozen BK427.out 1) | ((with_reducible refine gate_callee (f := 36) rfl ?_); refine gl_ 8 Try.func36 #[.slice Ao5 l0_0.length co5, .int .i64 a1] ?_; (with_reducible refine (laws_markAffixS.calls k (fun k_ => some k_ = (.slice Ao5 l0_0.length co5 : Value).ownBlock) (.slice Ao5 l0_0.length co5) l0_0 a1 t428 t429 w0 _ ?side1 ?side2 A3.out).mono ?_); (case side1 => exact bs_); (case side2 => exact Kd.R_tight rfl HO0_0.out); rintro e w9 ⟨rfl, hy0, hb, hkp⟩; refine ⟨_, rfl, ?_⟩; replace HO0_1 := Aside0.mk (Kd.R_mono (ok' := fun k_ => ((P0_0_ k_ ∨ P0_1_ k_) ∨ w.heap.size ≤ k_)) (Kd.R_keptB ((Kd.R_apart' HO0_1.out (Kd.R_typed HO0_0.out) (by decide))) hkp (fun k_ hk_ hs_ => (hk_.2) hs_)) (fun k_ hk_ => hk_.1.1)); replace BK427 := Aside0.mk (blk_kept (bk_ BK427) hkp (fun hs_ => (fun e_ => (Kd.R_ne HO0_0.out BK427.out (by decide)) e_) hs_)); replace HK := Aside0.mk (Kept.then_ (S := (fun k_ => P0_0_ k_ ∨ P0_1_ k_)) (by repeat (first | (with_reducible first | exact HK.out | apply Kept.alloc | apply Kept.drewN | apply Kept.drew | refine Kept.setCell ?_ (.inr GW427.out) _) | exact HK.out)) hkp (fun k_ hs_ => (fun e_ => (HO0_0.out.1 k_ e_.symm)) hs_)); replace HO0_0 := Aside0.mk (Kd.R_reok rfl hy0 (fun k_ e_ => HO0_0.out.1 k_ e_)); replace HB := Aside0.mk (hb); (try clear hb); (try clear hkp); (try clear hy0); have hcz10_0 := bc0_ BK427; have hcz10_1 := bc1_ BK427; have hfz10_0 := blk_frozen BK427.out 0; have hfz10_1 := blk_frozen BK427.out 1) | ((with_reducible refine gate_callee (f := 37) rfl ?_); refine gl_ 12 Try.func37 #[.slice Ao6 l0_1.length co6, .int .i64 t428] ?_; (with_reducible refine (laws_markEntryS.calls k (fun k_ => some k_ = (.slice Ao6 l0_1.length co6 : Value).ownBlock) (.slice Ao6 l0_1.length co6) l0_1 t428 t430 t431 w0 _ ?side1 ?side2 A4.out).mono ?_); (case side1 => exact bs_); (case side2 => exact Kd.R_tight rfl HO0_1.out); rintro e w11 ⟨rfl, hy0, hb, hkp⟩; refine ⟨_, rfl, ?_⟩; replace HO0_0 := Aside0.mk (Kd.R_mono (ok' := fun k_ => ((P0_0_ k_ ∨ P0_1_ k_) ∨ w.heap.size ≤ k_)) (Kd.R_keptB ((Kd.R_apart' HO0_0.out (Kd.R_typed HO0_1.out) (by decide))) hkp (fun k_ hk_ hs_ => (hk_.2) hs_)) (fun k_ hk_ => hk_.1.1)); replace BK427 := Aside0.mk (blk_kept (bk_ BK427) hkp (fun hs_ => (fun e_ => (Kd.R_ne HO0_1.out BK427.out (by decide)) e_) hs_)); replace HK := Aside0.mk (Kept.then_ (S := (fun k_ => P0_0_ k_ ∨ P0_1_ k_)) (by repeat (first | (with_reducible first | exact HK.out | apply Kept.alloc | apply Kept.drewN | apply Kept.drew | refine Kept.setCell ?_ (.inr GW427.out) _) | exact HK.out)) hkp (fun k_ hs_ => (fun e_ => (HO0_1.out.1 k_ e_.symm)) hs_)); replace HO0_1 := Aside0.mk (Kd.R_reok rfl hy0 (fun k_ e_ => HO0_1.out.1 k_ e_)); replace HB := Aside0.mk (hb); (try clear hb); (try clear hkp); (try clear hy0)))
 go_ret
 exact ⟨rfe_, kR_ HO0_0, kR_ HO0_1, bl_, by repeat (first | (with_reducible first | exact HK.out | apply Kept.alloc | apply Kept.drewN | apply Kept.drew | refine Kept.setCell ?_ (.inr GW427.out) _) | exact HK.out)⟩

end Go.Proofs.Ytbopiacjioedeaa.P
