-- Written by a program of this session (wip/gen/gen.py) out of Lean's print of the loaded program; Lean checks it.
import Derived.Test.YtbopiacjioedeaaP0
import Derived.Test.YtbopiacjioedeaaSq2
import Derived.Test.YtbopiacjioedeaaP13
namespace Go.Proofs.Ytbopiacjioedeaa.P
open Go.RowKit Go.Proofs.YtbopiacjioedeaaW.PrintWords Go.Proofs.YtbopiacjioedeaaW.PrintLast Go.Proofs.YtbopiacjioedeaaW.PrintMore
attribute [local go_sem] max2_int min2_int max_two min_two max_three min_three max_four min_four IntKind.wrap_u8 IntKind.wrap_u32 w64_256 w64_u32
set_option maxHeartbeats 8000000
set_option maxRecDepth 100000
set_option linter.unusedVariables false
set_option linter.unusedSimpArgs false

/-! ### laws_szAffixS: function 30 -/
def laws_szAffixS.l0 : Nat → List (S83) → Int → Int → Option (Int)
 | 0, _, _, _ => none
 | k + 1, x0, x1, x5 => if x5 < (x0.length : Int) then (if 0 ≤ x5 then ((laws_szAffix.f ((rd_T83 x0 x5).f0) ((rd_T83 x0 x5).f1) ((rd_T83 x0 x5).f2) ((rd_T83 x0 x5).f3) ((rd_T83 x0 x5).f4) x1).bind fun t356 => (if t356 < 0 then (some (-1)) else (laws_szAffixS.l0 k x0 t356 (wrap64 (x5 + 1))))) else (none)) else (some x1)
def laws_szAffixS.f (k : Nat) (l0 : List (S83)) (a1 : Int) : Option (Int) := if (wrap64 (a1 - (l0.length : Int))) < 0 then (some (-1)) else (laws_szAffixS.l0 k l0 (wrap64 (a1 - (l0.length : Int))) 0)
theorem laws_szAffixS.mono_l : ∀ k, (∀ y0 y1 y2, LeO (laws_szAffixS.l0 k y0 y1 y2) (laws_szAffixS.l0 (k + 1) y0 y1 y2))
 | 0 => fun _ _ _ r h => by simp [laws_szAffixS.l0] at h
 | k + 1 => by
  have ih0 := laws_szAffixS.mono_l k
  · intro y0 y1 y2
    unfold laws_szAffixS.l0
    exact mn_
theorem laws_szAffixS.mono : ∀ a0 a1 k, LeO (laws_szAffixS.f k a0 a1) (laws_szAffixS.f (k + 1) a0 a1) := by
 intro a0 a1 k
 have ih0 := laws_szAffixS.mono_l k
 unfold laws_szAffixS.f
 exact mn_
theorem laws_szAffixS.calls (k : Nat) (A0 : Option Addr) (c0 : Nat) (l0 : List (S83)) (a1 : Int) (r : Int) (w : World) (hr0 : Kd.C k83 w A0 l0.length l0) (hc0 : l0.length ≤ c0) (h : laws_szAffixS.f k l0 a1 = some r) :
 Calls Try.prog 30 #[.slice A0 l0.length c0, .int .i64 a1] w fun e w' => e = .returned (.int .i64 r) ∧ Below w.heap.size w w' := by
 have hu83 := Try.underlying83
 have HR0 := Aside0.mk hr0
 have HC0 := Aside0.mk hc0
 clear hr0 hc0
 have HB := Aside0.mk (Below.refl w.heap.size w)
 unfold laws_szAffixS.f at h; have H := h; clear h
 replace H := itdc_ H; rcases H with ⟨c3b0, H⟩ | ⟨c3, H⟩
 · obtain rfl := Option.some.inj H
   go_enter Try.func30, Try.ntmps30
   go_wp2
   go_ret
   exact ⟨rfe_, bl_⟩
 have c3b0 : decide ((wrap64 (a1 - (l0.length : Int))) < 0) = false := decide_eq_false c3
 clear c3
 have H' := Aside0.mk H; clear H
 go_enter Try.func30, Try.ntmps30
 go_wp2
 go_loopg [1, 5] k (fun kq v1 v5 w' => ∃ (x1_1 : Int) (x5_1 : Int), v1 = .int .i64 x1_1 ∧ v5 = .int .i64 x5_1 ∧ Aside0 (laws_szAffixS.l0 kq l0 x1_1 x5_1 = some r) ∧ Aside0 (kq ≤ k) ∧ Aside0 (Below w.heap.size w w'))
 case atStart => exact ⟨(wrap64 (a1 - (l0.length : Int))), (0), rf_, rf_, H', ⟨Nat.le_refl _⟩, ⟨bl_⟩⟩
 case round =>
  clear H'
  (try clear p2);(try clear c3);(try clear c3b0)
  obtain ⟨x1_1, x5_1, rfl, rfl, HA, HK1, HB⟩ := hrel
  cases gk with
  | zero => exact absurd HA.out (by simp [laws_szAffixS.l0])
  | succ k1 =>
   have H := HA.out
   clear HA
   simp only [laws_szAffixS.l0] at H
   replace H := iudd_ H; rcases H with ⟨c4b0, H⟩ | ⟨c4b0, H⟩
   · obtain rfl := Option.some.inj H
     go_wp2
     go_ret
     exact ⟨rfe_, bl_⟩
   replace H := ind_ H; obtain ⟨c5b0, H⟩ := H
   replace H := Option.bind_eq_some_iff.mp H
   obtain ⟨t356, A60, H⟩ := H; try dsimp only at H
   have A6 := Aside0.mk A60
   clear A60
   replace H := itdd_ H; rcases H with ⟨c7b0, H⟩ | ⟨c7b0, H⟩
   · obtain rfl := Option.some.inj H
     have p355 : 0 ≤ (x5_1 : Int) := od_
     have q355 : x5_1 < (l0.length : Int) := od_
     obtain ⟨ad355, e355, hx355_0, hx355_1, hx355_2, hx355_3, hx355_4⟩ := at_T83 HR0.out x5_1 p355 q355
     cases e355
     replace hx355_0 := hc_ HB hx355_0
     replace hx355_1 := hc_ HB hx355_1
     replace hx355_2 := hc_ HB hx355_2
     replace hx355_3 := hc_ HB hx355_3
     replace hx355_4 := hc_ HB hx355_4
     replace p355 := eq_true p355; replace q355 := eq_true q355
     go_wp2_with (first | ((with_reducible refine gate_callee (f := 56) rfl ?_); refine gl_ 23 Try.func56 #[.agg #[.string ((rd_T83 l0 x5_1).f0), .bool ((rd_T83 l0 x5_1).f1), .string ((rd_T83 l0 x5_1).f2), .string ((rd_T83 l0 x5_1).f3), .string ((rd_T83 l0 x5_1).f4)], .int .i64 x1_1] ?_; (with_reducible refine (laws_szAffix.calls ((rd_T83 l0 x5_1).f0) ((rd_T83 l0 x5_1).f1) ((rd_T83 l0 x5_1).f2) ((rd_T83 l0 x5_1).f3) ((rd_T83 l0 x5_1).f4) x1_1 t356 _ A6.out).mono ?_); rintro e w8 ⟨rfl, hb⟩; refine ⟨_, rfl, ?_⟩; replace HB := Aside0.mk (below_step (bl_) hb); (try clear hb); (try clear hb2); (try clear hk); (try clear hi)))
     go_ret
     exact ⟨rfe_, bl_⟩
   have H' := Aside0.mk H; clear H
   have p355 : 0 ≤ (x5_1 : Int) := od_
   have q355 : x5_1 < (l0.length : Int) := od_
   obtain ⟨ad355, e355, hx355_0, hx355_1, hx355_2, hx355_3, hx355_4⟩ := at_T83 HR0.out x5_1 p355 q355
   cases e355
   replace hx355_0 := hc_ HB hx355_0
   replace hx355_1 := hc_ HB hx355_1
   replace hx355_2 := hc_ HB hx355_2
   replace hx355_3 := hc_ HB hx355_3
   replace hx355_4 := hc_ HB hx355_4
   replace p355 := eq_true p355; replace q355 := eq_true q355
   go_wp2_with (first | ((with_reducible refine gate_callee (f := 56) rfl ?_); refine gl_ 23 Try.func56 #[.agg #[.string ((rd_T83 l0 x5_1).f0), .bool ((rd_T83 l0 x5_1).f1), .string ((rd_T83 l0 x5_1).f2), .string ((rd_T83 l0 x5_1).f3), .string ((rd_T83 l0 x5_1).f4)], .int .i64 x1_1] ?_; (with_reducible refine (laws_szAffix.calls ((rd_T83 l0 x5_1).f0) ((rd_T83 l0 x5_1).f1) ((rd_T83 l0 x5_1).f2) ((rd_T83 l0 x5_1).f3) ((rd_T83 l0 x5_1).f4) x1_1 t356 _ A6.out).mono ?_); rintro e w9 ⟨rfl, hb⟩; refine ⟨_, rfl, ?_⟩; replace HB := Aside0.mk (below_step (bl_) hb); (try clear hb); (try clear hb2); (try clear hk); (try clear hi)))
   go_roundg k1
   case measure => have := HK1.out; omega
   case rel => exact ⟨(t356), (wrap64 (x5_1 + 1)), rf_, rf_, H', ⟨by have := HK1.out; omega⟩, ⟨bl_⟩⟩

/-! ### laws_szEntry: function 57 -/
def laws_szEntry.f (a0_0 : ByteArray) (a0_1 : ByteArray) (a1 : Int) : Option (Int) := if (wrap64 (a1 - (a0_0.size : Int))) < 0 then (some (-1)) else (if (wrap64 ((wrap64 (a1 - (a0_0.size : Int))) - (a0_1.size : Int))) < 0 then (some (-1)) else (some (wrap64 ((wrap64 (a1 - (a0_0.size : Int))) - (a0_1.size : Int)))))
theorem laws_szEntry.calls (a0_0 : ByteArray) (a0_1 : ByteArray) (a1 : Int) (r : Int) (w : World) (h : laws_szEntry.f a0_0 a0_1 a1 = some r) :
 Calls Try.prog 57 #[.agg #[.string a0_0, .string a0_1], .int .i64 a1] w fun e w' => e = .returned (.int .i64 r) ∧ Below w.heap.size w w' := by
 have hu85 := Try.underlying85
 have HB := Aside0.mk (Below.refl w.heap.size w)
 unfold laws_szEntry.f at h; have H := h; clear h
 replace H := itdd_ H; rcases H with ⟨c3b0, H⟩ | ⟨c3b0, H⟩
 · obtain rfl := Option.some.inj H
   go_enter Try.func57, Try.ntmps57
   go_wp2_with (first | ((with_reducible refine gate_dst (N := 2) rfl ?_); refine be_ 2 85 #[.string a0_0, .string a0_1] ?_; intro gb357 hg w4 hbox hb; have BK357 := Aside0.mk (hbox); have GW357 := Aside0.mk ((gs_ hg : w.heap.size ≤ gb357)); have GE357 := Aside0.mk ((gs_ hg : w.heap.size ≤ gb357)); replace HB := Aside0.mk (below_step (bl_) hb); clear hb hbox hg; have hcz5_0 := bc0_ BK357; have hcz5_1 := bc1_ BK357; have hfz5_0 := blk_frozen BK357.out 0; have hfz5_1 := blk_frozen BK357.out 1))
   go_ret
   exact ⟨rfe_, bl_⟩
 replace H := itdd_ H; rcases H with ⟨c6b0, H⟩ | ⟨c6b0, H⟩
 · obtain rfl := Option.some.inj H
   go_enter Try.func57, Try.ntmps57
   go_wp2_with (first | ((with_reducible refine gate_dst (N := 2) rfl ?_); refine be_ 2 85 #[.string a0_0, .string a0_1] ?_; intro gb357 hg w7 hbox hb; have BK357 := Aside0.mk (hbox); have GW357 := Aside0.mk ((gs_ hg : w.heap.size ≤ gb357)); have GE357 := Aside0.mk ((gs_ hg : w.heap.size ≤ gb357)); replace HB := Aside0.mk (below_step (bl_) hb); clear hb hbox hg; have hcz8_0 := bc0_ BK357; have hcz8_1 := bc1_ BK357; have hfz8_0 := blk_frozen BK357.out 0; have hfz8_1 := blk_frozen BK357.out 1))
   go_ret
   exact ⟨rfe_, bl_⟩
 obtain rfl := Option.some.inj H
 go_enter Try.func57, Try.ntmps57
 go_wp2_with (first | ((with_reducible refine gate_dst (N := 2) rfl ?_); refine be_ 2 85 #[.string a0_0, .string a0_1] ?_; intro gb357 hg w9 hbox hb; have BK357 := Aside0.mk (hbox); have GW357 := Aside0.mk ((gs_ hg : w.heap.size ≤ gb357)); have GE357 := Aside0.mk ((gs_ hg : w.heap.size ≤ gb357)); replace HB := Aside0.mk (below_step (bl_) hb); clear hb hbox hg; have hcz10_0 := bc0_ BK357; have hcz10_1 := bc1_ BK357; have hfz10_0 := blk_frozen BK357.out 0; have hfz10_1 := blk_frozen BK357.out 1))
 go_ret
 exact ⟨rfe_, bl_⟩

/-! ### laws_szEntryS: function 31 -/
def laws_szEntryS.l0 : Nat → List (S85) → Int → Int → Option (Int)
 | 0, _, _, _ => none
 | k + 1, x0, x1, x5 => if x5 < (x0.length : Int) then (if 0 ≤ x5 then ((laws_szEntry.f ((rd_T85 x0 x5).f0) ((rd_T85 x0 x5).f1) x1).bind fun t359 => (if t359 < 0 then (some (-1)) else (laws_szEntryS.l0 k x0 t359 (wrap64 (x5 + 1))))) else (none)) else (some x1)
def laws_szEntryS.f (k : Nat) (l0 : List (S85)) (a1 : Int) : Option (Int) := if (wrap64 (a1 - (l0.length : Int))) < 0 then (some (-1)) else (laws_szEntryS.l0 k l0 (wrap64 (a1 - (l0.length : Int))) 0)
theorem laws_szEntryS.mono_l : ∀ k, (∀ y0 y1 y2, LeO (laws_szEntryS.l0 k y0 y1 y2) (laws_szEntryS.l0 (k + 1) y0 y1 y2))
 | 0 => fun _ _ _ r h => by simp [laws_szEntryS.l0] at h
 | k + 1 => by
  have ih0 := laws_szEntryS.mono_l k
  · intro y0 y1 y2
    unfold laws_szEntryS.l0
    exact mn_
theorem laws_szEntryS.mono : ∀ a0 a1 k, LeO (laws_szEntryS.f k a0 a1) (laws_szEntryS.f (k + 1) a0 a1) := by
 intro a0 a1 k
 have ih0 := laws_szEntryS.mono_l k
 unfold laws_szEntryS.f
 exact mn_
theorem laws_szEntryS.calls (k : Nat) (A0 : Option Addr) (c0 : Nat) (l0 : List (S85)) (a1 : Int) (r : Int) (w : World) (hr0 : Kd.C k85 w A0 l0.length l0) (hc0 : l0.length ≤ c0) (h : laws_szEntryS.f k l0 a1 = some r) :
 Calls Try.prog 31 #[.slice A0 l0.length c0, .int .i64 a1] w fun e w' => e = .returned (.int .i64 r) ∧ Below w.heap.size w w' := by
 have hu85 := Try.underlying85
 have HR0 := Aside0.mk hr0
 have HC0 := Aside0.mk hc0
 clear hr0 hc0
 have HB := Aside0.mk (Below.refl w.heap.size w)
 unfold laws_szEntryS.f at h; have H := h; clear h
 replace H := itdc_ H; rcases H with ⟨c3b0, H⟩ | ⟨c3, H⟩
 · obtain rfl := Option.some.inj H
   go_enter Try.func31, Try.ntmps31
   go_wp2
   go_ret
   exact ⟨rfe_, bl_⟩
 have c3b0 : decide ((wrap64 (a1 - (l0.length : Int))) < 0) = false := decide_eq_false c3
 clear c3
 have H' := Aside0.mk H; clear H
 go_enter Try.func31, Try.ntmps31
 go_wp2
 go_loopg [1, 5] k (fun kq v1 v5 w' => ∃ (x1_1 : Int) (x5_1 : Int), v1 = .int .i64 x1_1 ∧ v5 = .int .i64 x5_1 ∧ Aside0 (laws_szEntryS.l0 kq l0 x1_1 x5_1 = some r) ∧ Aside0 (kq ≤ k) ∧ Aside0 (Below w.heap.size w w'))
 case atStart => exact ⟨(wrap64 (a1 - (l0.length : Int))), (0), rf_, rf_, H', ⟨Nat.le_refl _⟩, ⟨bl_⟩⟩
 case round =>
  clear H'
  (try clear p2);(try clear c3);(try clear c3b0)
  obtain ⟨x1_1, x5_1, rfl, rfl, HA, HK1, HB⟩ := hrel
  cases gk with
  | zero => exact absurd HA.out (by simp [laws_szEntryS.l0])
  | succ k1 =>
   have H := HA.out
   clear HA
   simp only [laws_szEntryS.l0] at H
   replace H := iudd_ H; rcases H with ⟨c4b0, H⟩ | ⟨c4b0, H⟩
   · obtain rfl := Option.some.inj H
     go_wp2
     go_ret
     exact ⟨rfe_, bl_⟩
   replace H := ind_ H; obtain ⟨c5b0, H⟩ := H
   replace H := Option.bind_eq_some_iff.mp H
   obtain ⟨t359, A60, H⟩ := H; try dsimp only at H
   have A6 := Aside0.mk A60
   clear A60
   replace H := itdd_ H; rcases H with ⟨c7b0, H⟩ | ⟨c7b0, H⟩
   · obtain rfl := Option.some.inj H
     have p358 : 0 ≤ (x5_1 : Int) := od_
     have q358 : x5_1 < (l0.length : Int) := od_
     obtain ⟨ad358, e358, hx358_0, hx358_1⟩ := at_T85 HR0.out x5_1 p358 q358
     cases e358
     replace hx358_0 := hc_ HB hx358_0
     replace hx358_1 := hc_ HB hx358_1
     replace p358 := eq_true p358; replace q358 := eq_true q358
     go_wp2_with (first | ((with_reducible refine gate_callee (f := 57) rfl ?_); refine gl_ 23 Try.func57 #[.agg #[.string ((rd_T85 l0 x5_1).f0), .string ((rd_T85 l0 x5_1).f1)], .int .i64 x1_1] ?_; (with_reducible refine (laws_szEntry.calls ((rd_T85 l0 x5_1).f0) ((rd_T85 l0 x5_1).f1) x1_1 t359 _ A6.out).mono ?_); rintro e w8 ⟨rfl, hb⟩; refine ⟨_, rfl, ?_⟩; replace HB := Aside0.mk (below_step (bl_) hb); (try clear hb); (try clear hb2); (try clear hk); (try clear hi)))
     go_ret
     exact ⟨rfe_, bl_⟩
   have H' := Aside0.mk H; clear H
   have p358 : 0 ≤ (x5_1 : Int) := od_
   have q358 : x5_1 < (l0.length : Int) := od_
   obtain ⟨ad358, e358, hx358_0, hx358_1⟩ := at_T85 HR0.out x5_1 p358 q358
   cases e358
   replace hx358_0 := hc_ HB hx358_0
   replace hx358_1 := hc_ HB hx358_1
   replace p358 := eq_true p358; replace q358 := eq_true q358
   go_wp2_with (first | ((with_reducible refine gate_callee (f := 57) rfl ?_); refine gl_ 23 Try.func57 #[.agg #[.string ((rd_T85 l0 x5_1).f0), .string ((rd_T85 l0 x5_1).f1)], .int .i64 x1_1] ?_; (with_reducible refine (laws_szEntry.calls ((rd_T85 l0 x5_1).f0) ((rd_T85 l0 x5_1).f1) x1_1 t359 _ A6.out).mono ?_); rintro e w9 ⟨rfl, hb⟩; refine ⟨_, rfl, ?_⟩; replace HB := Aside0.mk (below_step (bl_) hb); (try clear hb); (try clear hb2); (try clear hk); (try clear hi)))
   go_roundg k1
   case measure => have := HK1.out; omega
   case rel => exact ⟨(t359), (wrap64 (x5_1 + 1)), rf_, rf_, H', ⟨by have := HK1.out; omega⟩, ⟨bl_⟩⟩

/-! ### laws_szBook: function 10 -/
def laws_szBook.f (k : Nat) (l0_0 : List (S83)) (l0_1 : List (S85)) (a1 : Int) : Option (Int) := (laws_szAffixS.f k l0_0 a1).bind fun t361 => (if t361 < 0 then (some (-1)) else ((laws_szEntryS.f k l0_1 t361).bind fun t362 => (if t362 < 0 then (some (-1)) else (some t362))))
theorem laws_szBook.mono : ∀ a0 a1 a2 k, LeO (laws_szBook.f k a0 a1 a2) (laws_szBook.f (k + 1) a0 a1 a2) := by
 intro a0 a1 a2 k
 unfold laws_szBook.f
 have m0 := @laws_szAffixS.mono
 have m1 := @laws_szEntryS.mono
 exact mn_
theorem laws_szBook.calls (k : Nat) (A0_0 : Option Addr) (c0_0 : Nat) (l0_0 : List (S83)) (A0_1 : Option Addr) (c0_1 : Nat) (l0_1 : List (S85)) (a1 : Int) (r : Int) (w : World) (hr0_0 : Kd.C k83 w A0_0 l0_0.length l0_0) (hc0_0 : l0_0.length ≤ c0_0) (hr0_1 : Kd.C k85 w A0_1 l0_1.length l0_1) (hc0_1 : l0_1.length ≤ c0_1) (h : laws_szBook.f k l0_0 l0_1 a1 = some r) :
 Calls Try.prog 10 #[.agg #[.slice A0_0 l0_0.length c0_0, .slice A0_1 l0_1.length c0_1], .int .i64 a1] w fun e w' => e = .returned (.int .i64 r) ∧ Below w.heap.size w w' := by
 have hu37 := Try.underlying37
 have HR0_0 := Aside0.mk hr0_0
 have HC0_0 := Aside0.mk hc0_0
 clear hr0_0 hc0_0
 have HR0_1 := Aside0.mk hr0_1
 have HC0_1 := Aside0.mk hc0_1
 clear hr0_1 hc0_1
 have HB := Aside0.mk (Below.refl w.heap.size w)
 unfold laws_szBook.f at h; have H := h; clear h
 replace H := Option.bind_eq_some_iff.mp H
 obtain ⟨t361, A30, H⟩ := H; try dsimp only at H
 have A3 := Aside0.mk A30
 clear A30
 replace H := itdd_ H; rcases H with ⟨c4b0, H⟩ | ⟨c4b0, H⟩
 · obtain rfl := Option.some.inj H
   go_enter Try.func10, Try.ntmps10
   go_wp2_with (first | ((with_reducible refine gate_dst (N := 2) rfl ?_); refine be_ 2 37 #[.slice A0_0 l0_0.length c0_0, .slice A0_1 l0_1.length c0_1] ?_; intro gb360 hg w5 hbox hb; have BK360 := Aside0.mk (hbox); have GW360 := Aside0.mk ((gs_ hg : w.heap.size ≤ gb360)); have GE360 := Aside0.mk ((gs_ hg : w.heap.size ≤ gb360)); replace HB := Aside0.mk (below_step (bl_) hb); clear hb hbox hg; have hcz6_0 := bc0_ BK360; have hcz6_1 := bc1_ BK360; have hfz6_0 := blk_frozen BK360.out 0; have hfz6_1 := blk_frozen BK360.out 1) | ((with_reducible refine gate_callee (f := 30) rfl ?_); refine gl_ 8 Try.func30 #[.slice A0_0 l0_0.length c0_0, .int .i64 a1] ?_; (with_reducible refine (laws_szAffixS.calls k _ _ l0_0 a1 t361 _ ?side1 ?side2 A3.out).mono ?_); (case side1 => exact cb_ HR0_0); (case side2 => exact HC0_0.out); rintro e w7 ⟨rfl, hb⟩; refine ⟨_, rfl, ?_⟩; replace BK360 := Aside0.mk (blk_below (bk_ BK360) hb); replace HB := Aside0.mk (below_step (bl_) hb); (try clear hb); (try clear hb2); (try clear hk); (try clear hi)))
   go_ret
   exact ⟨rfe_, bl_⟩
 replace H := Option.bind_eq_some_iff.mp H
 obtain ⟨t362, A80, H⟩ := H; try dsimp only at H
 have A8 := Aside0.mk A80
 clear A80
 replace H := itdd_ H; rcases H with ⟨c9b0, H⟩ | ⟨c9b0, H⟩
 · obtain rfl := Option.some.inj H
   go_enter Try.func10, Try.ntmps10
   go_wp2_with (first | ((with_reducible refine gate_dst (N := 2) rfl ?_); refine be_ 2 37 #[.slice A0_0 l0_0.length c0_0, .slice A0_1 l0_1.length c0_1] ?_; intro gb360 hg w10 hbox hb; have BK360 := Aside0.mk (hbox); have GW360 := Aside0.mk ((gs_ hg : w.heap.size ≤ gb360)); have GE360 := Aside0.mk ((gs_ hg : w.heap.size ≤ gb360)); replace HB := Aside0.mk (below_step (bl_) hb); clear hb hbox hg; have hcz11_0 := bc0_ BK360; have hcz11_1 := bc1_ BK360; have hfz11_0 := blk_frozen BK360.out 0; have hfz11_1 := blk_frozen BK360.out 1) | ((with_reducible refine gate_callee (f := 30) rfl ?_); refine gl_ 8 Try.func30 #[.slice A0_0 l0_0.length c0_0, .int .i64 a1] ?_; (with_reducible refine (laws_szAffixS.calls k _ _ l0_0 a1 t361 _ ?side1 ?side2 A3.out).mono ?_); (case side1 => exact cb_ HR0_0); (case side2 => exact HC0_0.out); rintro e w12 ⟨rfl, hb⟩; refine ⟨_, rfl, ?_⟩; replace BK360 := Aside0.mk (blk_below (bk_ BK360) hb); replace HB := Aside0.mk (below_step (bl_) hb); (try clear hb); (try clear hb2); (try clear hk); (try clear hi); have hcz13_0 := bc0_ BK360; have hcz13_1 := bc1_ BK360; have hfz13_0 := blk_frozen BK360.out 0; have hfz13_1 := blk_frozen BK360.out 1) | ((with_reducible refine gate_callee (f := 31) rfl ?_); refine gl_ 14 Try.func31 #[.slice A0_1 l0_1.length c0_1, .int .i64 t361] ?_; (with_reducible refine (laws_szEntryS.calls k _ _ l0_1 t361 t362 _ ?side1 ?side2 A8.out).mono ?_); (case side1 => exact cb_ HR0_1); (case side2 => exact HC0_1.out); rintro e w14 ⟨rfl, hb⟩; refine ⟨_, rfl, ?_⟩; replace BK360 := Aside0.mk (blk_below (bk_ BK360) hb); replace HB := Aside0.mk (below_step (bl_) hb); (try clear hb); (try clear hb2); (try clear hk); (try clear hi)))
   go_ret
   exact ⟨rfe_, bl_⟩
 obtain rfl := Option.some.inj H
 go_enter Try.func10, Try.ntmps10
 go_wp2_with (first | ((with_reducible refine gate_dst (N := 2) rfl ?_); refine be_ 2 37 #[.slice A0_0 l0_0.length c0_0, .slice A0_1 l0_1.length c0_1] ?_; intro gb360 hg w15 hbox hb; have BK360 := Aside0.mk (hbox); have GW360 := Aside0.mk ((gs_ hg : w.heap.size ≤ gb360)); have GE360 := Aside0.mk ((gs_ hg : w.heap.size ≤ gb360)); replace HB := Aside0.mk (below_step (bl_) hb); clear hb hbox hg; have hcz16_0 := bc0_ BK360; have hcz16_1 := bc1_ BK360; have hfz16_0 := blk_frozen BK360.out 0; have hfz16_1 := blk_frozen BK360.out 1) | ((with_reducible refine gate_callee (f := 30) rfl ?_); refine gl_ 8 Try.func30 #[.slice A0_0 l0_0.length c0_0, .int .i64 a1] ?_; (with_reducible refine (laws_szAffixS.calls k _ _ l0_0 a1 t361 _ ?side1 ?side2 A3.out).mono ?_); (case side1 => exact cb_ HR0_0); (case side2 => exact HC0_0.out); rintro e w17 ⟨rfl, hb⟩; refine ⟨_, rfl, ?_⟩; replace BK360 := Aside0.mk (blk_below (bk_ BK360) hb); replace HB := Aside0.mk (below_step (bl_) hb); (try clear hb); (try clear hb2); (try clear hk); (try clear hi); have hcz18_0 := bc0_ BK360; have hcz18_1 := bc1_ BK360; have hfz18_0 := blk_frozen BK360.out 0; have hfz18_1 := blk_frozen BK360.out 1) | ((with_reducible refine gate_callee (f := 31) rfl ?_); refine gl_ 14 Try.func31 #[.slice A0_1 l0_1.length c0_1, .int .i64 t361] ?_; (with_reducible refine (laws_szEntryS.calls k _ _ l0_1 t361 t362 _ ?side1 ?side2 A8.out).mono ?_); (case side1 => exact cb_ HR0_1); (case side2 => exact HC0_1.out); rintro e w19 ⟨rfl, hb⟩; refine ⟨_, rfl, ?_⟩; replace BK360 := Aside0.mk (blk_below (bk_ BK360) hb); replace HB := Aside0.mk (below_step (bl_) hb); (try clear hb); (try clear hb2); (try clear hk); (try clear hi)))
 go_ret
 exact ⟨rfe_, bl_⟩

/-! ### laws_toAffix: function 58 -/
def laws_toAffix.f (a0_0 : ByteArray) (a0_1 : Bool) (a0_2 : ByteArray) (a0_3 : ByteArray) (a0_4 : ByteArray) : Option (ByteArray × Bool × ByteArray × ByteArray × ByteArray) := some (a0_0, a0_1, a0_2, a0_3, a0_4)
theorem laws_toAffix.calls (a0_0 : ByteArray) (a0_1 : Bool) (a0_2 : ByteArray) (a0_3 : ByteArray) (a0_4 : ByteArray) (r1 : ByteArray) (r2 : Bool) (r3 : ByteArray) (r4 : ByteArray) (r5 : ByteArray) (w : World) (h : laws_toAffix.f a0_0 a0_1 a0_2 a0_3 a0_4 = some (r1, r2, r3, r4, r5)) :
 Calls Try.prog 58 #[.agg #[.string a0_0, .bool a0_1, .string a0_2, .string a0_3, .string a0_4]] w fun e w' => e = .returned (.agg #[.string r1, .bool r2, .string r3, .string r4, .string r5]) ∧ Below w.heap.size w w' := by
 have hu83 := Try.underlying83
 have hu68 := Try.underlying68
 have HB := Aside0.mk (Below.refl w.heap.size w)
 unfold laws_toAffix.f at h; have H := h; clear h
 simp only [Option.some.injEq, Prod.mk.injEq] at H
 obtain ⟨rfl, rfl, rfl, rfl, rfl⟩ := H
 go_enter Try.func58, Try.ntmps58
 go_wp2_with (first | ((with_reducible refine gate_dst (N := 1) rfl ?_); refine be_ 1 83 #[.string a0_0, .bool a0_1, .string a0_2, .string a0_3, .string a0_4] ?_; intro gb363 hg w2 hbox hb; have BK363 := Aside0.mk (hbox); have GW363 := Aside0.mk ((gs_ hg : w.heap.size ≤ gb363)); have GE363 := Aside0.mk ((gs_ hg : w.heap.size ≤ gb363)); replace HB := Aside0.mk (below_step (bl_) hb); clear hb hbox hg) | ((with_reducible refine gate_dst (N := 2) rfl ?_); refine be_ 2 68 #[.string (⟨#[]⟩ : ByteArray), .bool false, .string (⟨#[]⟩ : ByteArray), .string (⟨#[]⟩ : ByteArray), .string (⟨#[]⟩ : ByteArray)] ?_; intro gb364 hg w3 hbox hb; have BK364 := Aside0.mk (hbox); have GW364 := Aside0.mk ((gs_ hg : w.heap.size ≤ gb364)); have GE364 := Aside0.mk ((gs_ hg : w.heap.size ≤ gb364)); replace HB := Aside0.mk (below_step (bl_) hb); have NB363_364 := Aside0.mk ((by rw [hg]; exact Nat.ne_of_lt (blk_lt (bk_ BK363)) : gb363 ≠ gb364)); have NB364_363 := Aside0.mk ((by rw [hg]; exact Nat.ne_of_gt (blk_lt (bk_ BK363)) : gb364 ≠ gb363)); replace BK363 := Aside0.mk (blk_below (bk_ BK363) hb); clear hb hbox hg) | ((with_reducible refine gate_dst (N := 3) rfl ?_); refine be_ 3 68 #[.string (⟨#[]⟩ : ByteArray), .bool false, .string (⟨#[]⟩ : ByteArray), .string (⟨#[]⟩ : ByteArray), .string (⟨#[]⟩ : ByteArray)] ?_; intro gb365 hg w4 hbox hb; have BK365 := Aside0.mk (hbox); have GW365 := Aside0.mk ((gs_ hg : w.heap.size ≤ gb365)); have GE365 := Aside0.mk ((gs_ hg : w.heap.size ≤ gb365)); replace HB := Aside0.mk (below_step (bl_) hb); have NB363_365 := Aside0.mk ((by rw [hg]; exact Nat.ne_of_lt (blk_lt (bk_ BK363)) : gb363 ≠ gb365)); have NB365_363 := Aside0.mk ((by rw [hg]; exact Nat.ne_of_gt (blk_lt (bk_ BK363)) : gb365 ≠ gb363)); replace BK363 := Aside0.mk (blk_below (bk_ BK363) hb); have NB364_365 := Aside0.mk ((by rw [hg]; exact Nat.ne_of_lt (blk_lt (bk_ BK364)) : gb364 ≠ gb365)); have NB365_364 := Aside0.mk ((by rw [hg]; exact Nat.ne_of_gt (blk_lt (bk_ BK364)) : gb365 ≠ gb364)); replace BK364 := Aside0.mk (blk_below (bk_ BK364) hb); clear hb hbox hg; have hnb5 := NB363_364.out; have hnc5 := NB364_363.out; have hnb6 := NB363_365.out; have hnc6 := NB365_363.out; have hcz7_0 := bc0_ BK363; have hcz7_1 := bc1_ BK363; have hcz7_2 := bc2_ BK363; have hcz7_3 := bc3_ BK363; have hcz7_4 := bc4_ BK363; have hfz7_0 := blk_frozen BK363.out 0; have hfz7_1 := blk_frozen BK363.out 1; have hfz7_2 := blk_frozen BK363.out 2; have hfz7_3 := blk_frozen BK363.out 3; have hfz7_4 := blk_frozen BK363.out 4; have hnb8 := NB365_364.out; have hnc8 := NB364_365.out; have hcz9_0 := bc0_ BK365; have hcz9_1 := bc1_ BK365; have hcz9_2 := bc2_ BK365; have hcz9_3 := bc3_ BK365; have hcz9_4 := bc4_ BK365; have hfz9_0 := blk_frozen BK365.out 0; have hfz9_1 := blk_frozen BK365.out 1; have hfz9_2 := blk_frozen BK365.out 2; have hfz9_3 := blk_frozen BK365.out 3; have hfz9_4 := blk_frozen BK365.out 4; have hcz10_0 := bc0_ BK364; have hcz10_1 := bc1_ BK364; have hcz10_2 := bc2_ BK364; have hcz10_3 := bc3_ BK364; have hcz10_4 := bc4_ BK364; have hfz10_0 := blk_frozen BK364.out 0; have hfz10_1 := blk_frozen BK364.out 1; have hfz10_2 := blk_frozen BK364.out 2; have hfz10_3 := blk_frozen BK364.out 3; have hfz10_4 := blk_frozen BK364.out 4))
 refine bodyPost_ret (results_cell_row rfl _ _ gb364 68 #[.string a0_0, .bool a0_1, .string a0_2, .string a0_3, .string a0_4] (0, 0) _ rfl bq_ Try.underlying68 rfl (by kernel_rfl)) rfl ?_
 exact ⟨rfe_, bl_⟩

/-! ### laws_toAffixS: function 32 -/
def laws_toAffixS.l0 : Nat → List (S83) → List (S68) → Int → Option ((List (S68)))
 | 0, _, _, _ => none
 | k + 1, x0, x3, x4 => if x4 < (x0.length : Int) then (if 0 ≤ x4 then ((laws_toAffix.f ((rd_T83 x0 x4).f0) ((rd_T83 x0 x4).f1) ((rd_T83 x0 x4).f2) ((rd_T83 x0 x4).f3) ((rd_T83 x0 x4).f4)).bind fun bt370 => (if x4 < (x3.length : Int) then (laws_toAffixS.l0 k x0 (x3.set (x4 : Int).toNat (⟨bt370.1, bt370.2.1, bt370.2.2.1, bt370.2.2.2.1, bt370.2.2.2.2⟩ : S68)) (wrap64 (x4 + 1))) else (none))) else (none)) else (some x3)
def laws_toAffixS.f (k : Nat) (l0 : List (S83)) : Option ((List (S68))) := if 0 ≤ (l0.length : Int) then (if l0.length ≤ 3909374676536 then (laws_toAffixS.l0 k l0 (List.replicate l0.length z68) 0) else (none)) else (none)
theorem laws_toAffixS.mono_l : ∀ k, (∀ y0 y1 y2, LeO (laws_toAffixS.l0 k y0 y1 y2) (laws_toAffixS.l0 (k + 1) y0 y1 y2))
 | 0 => fun _ _ _ r h => by simp [laws_toAffixS.l0] at h
 | k + 1 => by
  have ih0 := laws_toAffixS.mono_l k
  · intro y0 y1 y2
    unfold laws_toAffixS.l0
    exact mn_
theorem laws_toAffixS.mono : ∀ a0 k, LeO (laws_toAffixS.f k a0) (laws_toAffixS.f (k + 1) a0) := by
 intro a0 k
 have ih0 := laws_toAffixS.mono_l k
 unfold laws_toAffixS.f
 exact mn_
theorem laws_toAffixS.calls (k : Nat) (A0 : Option Addr) (c0 : Nat) (l0 : List (S83)) (r : List (S68)) (w : World) (hr0 : Kd.C k83 w A0 l0.length l0) (hc0 : l0.length ≤ c0) (h : laws_toAffixS.f k l0 = some r) :
 Calls Try.prog 32 #[.slice A0 l0.length c0] w fun e w' => ∃ v0_ : Value, e = .returned (v0_) ∧ Kd.R k68 68 w' w.heap.size (fun _ => True) v0_ r ∧ Below w.heap.size w w' := by
 have hu83 := Try.underlying83
 have hu68 := Try.underlying68
 have HR0 := Aside0.mk hr0
 have HC0 := Aside0.mk hc0
 clear hr0 hc0
 have HB := Aside0.mk (Below.refl w.heap.size w)
 unfold laws_toAffixS.f at h; have H := h; clear h
 replace H := inc_ H; obtain ⟨c2, H⟩ := H
 have c2b0 := eq_true c2
 have c2b1 : decide (0 ≤ (l0.length : Int)) = true := decide_eq_true c2
 clear c2
 replace H := inc_ H; obtain ⟨c3, H⟩ := H
 have c3b0 := eq_true c3
 have c3b1 : decide (l0.length ≤ 3909374676536) = true := decide_eq_true c3
 clear c3
 obtain ⟨y366, hy_⟩ : ∃ y_ : List (S68), y_ = (List.replicate l0.length z68) := ⟨_, rfl⟩
 replace H : (laws_toAffixS.l0 k l0 y366 0) = some r := ry_
 have Ny366 := Aside0.mk hy_; clear hy_
 have H' := Aside0.mk H; clear H
 go_enter Try.func32, Try.ntmps32
 go_wp2_with (first | ((with_reducible refine gate_dst (N := 7) rfl ?_); refine Kd.R_make k68 _ 68 rfl (N := 7) rfl 23 _ _ rfl (l0.length : Int) rfl rfl Try.underlying23 (.agg #[(.string ⟨#[]⟩), (.bool false), (.string ⟨#[]⟩), (.string ⟨#[]⟩), (.string ⟨#[]⟩)]) 72 info68 rfl (by decide) (by omega) z68 (ok := fun _ => True) (okp := fun _ => True) (k68_mkM _ _ _ z68 ) (fun _ hk => hk) trivial (od_) (Nat.le_trans (Nat.mul_le_mul_right _ (od_ : (l0.length : Int).toNat ≤ 3909374676536)) (by omega)) (Below.refl _ _) (Nat.le_refl _) ?_; intro v367 w4 ho5 hb hg_ hnew_; clear hg_ hnew_; (first | rw [← Ny366.out] at ho5 | (simp only [Int.reduceToNat, Int.toNat_natCast] at ho5; rw [← Ny366.out] at ho5)); have HO368 := Aside0.mk (Kd.R_lower ho5 (below_size (bl_))); replace HB := Aside0.mk (below_step (bl_) hb); clear hb ho5))
 go_loopg [4] k (fun kq v4 w' => ∃ (x3_1 : List (S68)) (x4_1 : Int), v4 = .int .i64 x4_1 ∧ Aside0 (laws_toAffixS.l0 kq l0 x3_1 x4_1 = some r) ∧ Aside0 (kq ≤ k) ∧ Aside0 (Kd.R k68 68 w' w.heap.size (fun _ => True) v367 x3_1) ∧ Aside0 (Below w.heap.size w w'))
 case atStart => exact ⟨(y366), (0), rf_, H', ⟨Nat.le_refl _⟩, ⟨kR_ HO368⟩, ⟨bl_⟩⟩
 case round =>
  clear H'
  (try clear c2);(try clear c2b0);(try clear c2b1);(try clear p2);(try clear c3);(try clear c3b0);(try clear c3b1)
  obtain ⟨x3_1, x4_1, rfl, HA, HK1, HO_3, HB⟩ := hrel
  cases gk with
  | zero => exact absurd HA.out (by simp [laws_toAffixS.l0])
  | succ k1 =>
   have H := HA.out
   clear HA
   simp only [laws_toAffixS.l0] at H
   replace H := iudd_ H; rcases H with ⟨c6b0, H⟩ | ⟨c6b0, H⟩
   · obtain rfl := Option.some.inj H
     go_wp2
     go_ret
     exact ⟨_, rfe_, kR_ HO_3, bl_⟩
   replace H := ind_ H; obtain ⟨c7b0, H⟩ := H
   replace H := Option.bind_eq_some_iff.mp H
   obtain ⟨⟨t370, t371, t372, t373, t374⟩, A80, H⟩ := H; try dsimp only at H
   have A8 := Aside0.mk A80
   clear A80
   replace H := ind_ H; obtain ⟨c9b0, H⟩ := H
   obtain ⟨y375, hy_⟩ : ∃ y_ : List (S68), y_ = (x3_1.set (x4_1 : Int).toNat (⟨t370, t371, t372, t373, t374⟩ : S68)) := ⟨_, rfl⟩
   replace H : (laws_toAffixS.l0 k1 l0 y375 (wrap64 (x4_1 + 1))) = some r := ry_
   have Ny375 := Aside0.mk hy_; clear hy_
   have H' := Aside0.mk H; clear H
   have p369 : 0 ≤ (x4_1 : Int) := od_
   have q369 : x4_1 < (l0.length : Int) := od_
   obtain ⟨ad369, e369, hx369_0, hx369_1, hx369_2, hx369_3, hx369_4⟩ := at_T83 HR0.out x4_1 p369 q369
   cases e369
   replace hx369_0 := hc_ HB hx369_0
   replace hx369_1 := hc_ HB hx369_1
   replace hx369_2 := hc_ HB hx369_2
   replace hx369_3 := hc_ HB hx369_3
   replace hx369_4 := hc_ HB hx369_4
   replace p369 := eq_true p369; replace q369 := eq_true q369
   go_wp2_with (first | ((with_reducible refine gate_callee (f := 58) rfl ?_); refine gl_ 20 Try.func58 #[.agg #[.string ((rd_T83 l0 x4_1).f0), .bool ((rd_T83 l0 x4_1).f1), .string ((rd_T83 l0 x4_1).f2), .string ((rd_T83 l0 x4_1).f3), .string ((rd_T83 l0 x4_1).f4)]] ?_; (with_reducible refine (laws_toAffix.calls ((rd_T83 l0 x4_1).f0) ((rd_T83 l0 x4_1).f1) ((rd_T83 l0 x4_1).f2) ((rd_T83 l0 x4_1).f3) ((rd_T83 l0 x4_1).f4) t370 t371 t372 t373 t374 _ A8.out).mono ?_); rintro e w11 ⟨rfl, hb⟩; refine ⟨_, rfl, ?_⟩; replace HO_3 := Aside0.mk (Kd.R_below (kR_ HO_3) hb); replace HB := Aside0.mk (below_step (bl_) hb); (try clear hb); (try clear hb2); (try clear hk); (try clear hi); have p10 : 0 ≤ (x4_1 : Int) := od_; have q10 : (x4_1 : Int) < ((x3_1.length : Int) : Int) := od_; obtain ⟨go10, co10, eo10, gb10, gl10, cl10, HG10⟩ := Kd.R_form HO_3.out (by omega); (first | cases eo10 | (injection eo10 with ea_ en_ ec_; (first | subst ea_ | (injection ea_ with ea_; subst ea_)); subst ec_; clear en_)); have GB10 := Aside0.mk gb10; have GG10 := Aside0.mk HG10; clear gb10 gl10 HG10; obtain ⟨ce10, hcl10, hM10, hcc10, hfr10⟩ := Kd.R_elem HO_3.out z68 (x4_1 : Int) p10 q10; obtain rfl := k68_openM hM10; have hx10_0 : w11.cell? ⟨go10, (x4_1 : Int).toNat * 5, none⟩ = some (.string ((rd_T68 x3_1 x4_1).f0)) := hcc10 0 _ rfl; have hx10_1 : w11.cell? ⟨go10, (x4_1 : Int).toNat * 5 + 1, none⟩ = some (.bool ((rd_T68 x3_1 x4_1).f1)) := hcc10 1 _ rfl; have hx10_2 : w11.cell? ⟨go10, (x4_1 : Int).toNat * 5 + 2, none⟩ = some (.string ((rd_T68 x3_1 x4_1).f2)) := hcc10 2 _ rfl; have hx10_3 : w11.cell? ⟨go10, (x4_1 : Int).toNat * 5 + 3, none⟩ = some (.string ((rd_T68 x3_1 x4_1).f3)) := hcc10 3 _ rfl; have hx10_4 : w11.cell? ⟨go10, (x4_1 : Int).toNat * 5 + 4, none⟩ = some (.string ((rd_T68 x3_1 x4_1).f4)) := hcc10 4 _ rfl; have hf10_0 : w11.frozen? ⟨go10, (x4_1 : Int).toNat * 5, none⟩ = false := hfr10 0; have hf10_1 : w11.frozen? ⟨go10, (x4_1 : Int).toNat * 5 + 1, none⟩ = false := hfr10 1; have hf10_2 : w11.frozen? ⟨go10, (x4_1 : Int).toNat * 5 + 2, none⟩ = false := hfr10 2; have hf10_3 : w11.frozen? ⟨go10, (x4_1 : Int).toNat * 5 + 3, none⟩ = false := hfr10 3; have hf10_4 : w11.frozen? ⟨go10, (x4_1 : Int).toNat * 5 + 4, none⟩ = false := hfr10 4; clear hcl10 hcc10 hfr10 hM10; replace p10 := eq_true p10; replace q10 := eq_true q10; have HX12 := Aside0.mk (show Kd.R k68 68 w11 w.heap.size (fun _ => True) (.slice (some ⟨go10, 0, none⟩) x3_1.length co10) x3_1 from (kR_ HO_3)); obtain ⟨ce12, hcl12, hM12, hcc12, hfr12⟩ := Kd.R_elem HX12.out z68 (x4_1 : Int) (od_) (by have h_ : (x4_1 : Int) < ((x3_1.length : Int) : Int) := od_; first | exact h_ | (have e_ := (Kd.R_reads' HO_3.out).1; omega) | simpa using h_); obtain rfl := k68_openM hM12; have HP12 := Kd.R_seg HX12.out (x4_1 : Int) (od_) (by have h_ : (x4_1 : Int) < ((x3_1.length : Int) : Int) := od_; first | exact h_ | (have e_ := (Kd.R_reads' HO_3.out).1; omega) | simpa using h_) (seg := [.string t370, .bool t371, .string t372, .string t373, .string t374]) (j := 0) hcl12 hcc12 (show 5 ≤ 5 from by decide) (x' := (⟨t370, t371, t372, t373, t374⟩ : S68)) (k68_mkM _ _ _ (⟨t370, t371, t372, t373, t374⟩ : S68) ) (fun _ hk => hk); have hx12_0 := hcc12 0 _ rfl; (try simp only [show (k68).sz = 5 from rfl, Nat.mul_one, Nat.add_zero] at hx12_0); have hf12_0 := hfr12 0; (try simp only [show (k68).sz = 5 from rfl, Nat.mul_one, Nat.add_zero] at hf12_0); have hx12_1 := hcc12 1 _ rfl; (try simp only [show (k68).sz = 5 from rfl, Nat.mul_one, Nat.add_zero] at hx12_1); have hf12_1 := hfr12 1; (try simp only [show (k68).sz = 5 from rfl, Nat.mul_one, Nat.add_zero] at hf12_1); have hx12_2 := hcc12 2 _ rfl; (try simp only [show (k68).sz = 5 from rfl, Nat.mul_one, Nat.add_zero] at hx12_2); have hf12_2 := hfr12 2; (try simp only [show (k68).sz = 5 from rfl, Nat.mul_one, Nat.add_zero] at hf12_2); have hx12_3 := hcc12 3 _ rfl; (try simp only [show (k68).sz = 5 from rfl, Nat.mul_one, Nat.add_zero] at hx12_3); have hf12_3 := hfr12 3; (try simp only [show (k68).sz = 5 from rfl, Nat.mul_one, Nat.add_zero] at hf12_3); have hx12_4 := hcc12 4 _ rfl; (try simp only [show (k68).sz = 5 from rfl, Nat.mul_one, Nat.add_zero] at hx12_4); have hf12_4 := hfr12 4; (try simp only [show (k68).sz = 5 from rfl, Nat.mul_one, Nat.add_zero] at hf12_4); clear hcl12 hcc12 hfr12 hM12) | ((with_reducible refine gate_store (t := 68) (p := 21) rfl ?_); refine store_event (t := 68) (p := 21) (v := ?vo_w13) (w1 := (((((w11.setCell ⟨go10, (x4_1 : Int).toNat * 5, none⟩ (.string t370)).setCell ⟨go10, (x4_1 : Int).toNat * 5 + 1, none⟩ (.bool t371)).setCell ⟨go10, (x4_1 : Int).toNat * 5 + 2, none⟩ (.string t372)).setCell ⟨go10, (x4_1 : Int).toNat * 5 + 3, none⟩ (.string t373)).setCell ⟨go10, (x4_1 : Int).toNat * 5 + 4, none⟩ (.string t374))) ?hg ?ho ?hn ?hr ?_; (case ho => rfl); (case hg => rfl); (case hn => rfl); (case hr => first | (go_simp; done) | (go_simp; rfl)); intro w13 hw; have hg : w11.grownBy w13 (some go10) := (by rw [hw]; exact HP12.2); have hp_ : Kd.R k68 68 w13 w.heap.size (fun _ => True) (.slice (some ⟨go10, 0, none⟩) x3_1.length co10) y375 := (by rw [hw, Ny375.out]; exact HP12.1); clear HP12; replace HO_3 := Aside0.mk (hp_); replace HB := Aside0.mk ((by rw [hw]; exact below_set (below_set (below_set (below_set (below_set (HB.out) GB10.out) GB10.out) GB10.out) GB10.out) GB10.out : Below w.heap.size w w13)); clear hg hw hp_))
   go_roundg k1
   case measure => have := HK1.out; omega
   case rel => exact ⟨(y375), (wrap64 (x4_1 + 1)), rf_, H', ⟨by have := HK1.out; omega⟩, ⟨kR_ HO_3⟩, ⟨bl_⟩⟩

/-! ### laws_toEntry: function 59 -/
def laws_toEntry.f (a0_0 : ByteArray) (a0_1 : ByteArray) : Option (ByteArray × ByteArray) := some (a0_0, a0_1)
theorem laws_toEntry.calls (a0_0 : ByteArray) (a0_1 : ByteArray) (r1 : ByteArray) (r2 : ByteArray) (w : World) (h : laws_toEntry.f a0_0 a0_1 = some (r1, r2)) :
 Calls Try.prog 59 #[.agg #[.string a0_0, .string a0_1]] w fun e w' => e = .returned (.agg #[.string r1, .string r2]) ∧ Below w.heap.size w w' := by
 have hu85 := Try.underlying85
 have hu73 := Try.underlying73
 have HB := Aside0.mk (Below.refl w.heap.size w)
 unfold laws_toEntry.f at h; have H := h; clear h
 simp only [Option.some.injEq, Prod.mk.injEq] at H
 obtain ⟨rfl, rfl⟩ := H
 go_enter Try.func59, Try.ntmps59
 go_wp2_with (first | ((with_reducible refine gate_dst (N := 1) rfl ?_); refine be_ 1 85 #[.string a0_0, .string a0_1] ?_; intro gb376 hg w2 hbox hb; have BK376 := Aside0.mk (hbox); have GW376 := Aside0.mk ((gs_ hg : w.heap.size ≤ gb376)); have GE376 := Aside0.mk ((gs_ hg : w.heap.size ≤ gb376)); replace HB := Aside0.mk (below_step (bl_) hb); clear hb hbox hg) | ((with_reducible refine gate_dst (N := 2) rfl ?_); refine be_ 2 73 #[.string (⟨#[]⟩ : ByteArray), .string (⟨#[]⟩ : ByteArray)] ?_; intro gb377 hg w3 hbox hb; have BK377 := Aside0.mk (hbox); have GW377 := Aside0.mk ((gs_ hg : w.heap.size ≤ gb377)); have GE377 := Aside0.mk ((gs_ hg : w.heap.size ≤ gb377)); replace HB := Aside0.mk (below_step (bl_) hb); have NB376_377 := Aside0.mk ((by rw [hg]; exact Nat.ne_of_lt (blk_lt (bk_ BK376)) : gb376 ≠ gb377)); have NB377_376 := Aside0.mk ((by rw [hg]; exact Nat.ne_of_gt (blk_lt (bk_ BK376)) : gb377 ≠ gb376)); replace BK376 := Aside0.mk (blk_below (bk_ BK376) hb); clear hb hbox hg) | ((with_reducible refine gate_dst (N := 3) rfl ?_); refine be_ 3 73 #[.string (⟨#[]⟩ : ByteArray), .string (⟨#[]⟩ : ByteArray)] ?_; intro gb378 hg w4 hbox hb; have BK378 := Aside0.mk (hbox); have GW378 := Aside0.mk ((gs_ hg : w.heap.size ≤ gb378)); have GE378 := Aside0.mk ((gs_ hg : w.heap.size ≤ gb378)); replace HB := Aside0.mk (below_step (bl_) hb); have NB376_378 := Aside0.mk ((by rw [hg]; exact Nat.ne_of_lt (blk_lt (bk_ BK376)) : gb376 ≠ gb378)); have NB378_376 := Aside0.mk ((by rw [hg]; exact Nat.ne_of_gt (blk_lt (bk_ BK376)) : gb378 ≠ gb376)); replace BK376 := Aside0.mk (blk_below (bk_ BK376) hb); have NB377_378 := Aside0.mk ((by rw [hg]; exact Nat.ne_of_lt (blk_lt (bk_ BK377)) : gb377 ≠ gb378)); have NB378_377 := Aside0.mk ((by rw [hg]; exact Nat.ne_of_gt (blk_lt (bk_ BK377)) : gb378 ≠ gb377)); replace BK377 := Aside0.mk (blk_below (bk_ BK377) hb); clear hb hbox hg; have hnb5 := NB376_377.out; have hnc5 := NB377_376.out; have hnb6 := NB376_378.out; have hnc6 := NB378_376.out; have hcz7_0 := bc0_ BK376; have hcz7_1 := bc1_ BK376; have hfz7_0 := blk_frozen BK376.out 0; have hfz7_1 := blk_frozen BK376.out 1; have hnb8 := NB378_377.out; have hnc8 := NB377_378.out; have hcz9_0 := bc0_ BK378; have hcz9_1 := bc1_ BK378; have hfz9_0 := blk_frozen BK378.out 0; have hfz9_1 := blk_frozen BK378.out 1; have hcz10_0 := bc0_ BK377; have hcz10_1 := bc1_ BK377; have hfz10_0 := blk_frozen BK377.out 0; have hfz10_1 := blk_frozen BK377.out 1))
 refine bodyPost_ret (results_cell_row rfl _ _ gb377 73 #[.string a0_0, .string a0_1] (0, 0) _ rfl bq_ Try.underlying73 rfl (by kernel_rfl)) rfl ?_
 exact ⟨rfe_, bl_⟩

/-! ### laws_toEntryS: function 33 -/
def laws_toEntryS.l0 : Nat → List (S85) → List (S73) → Int → Option ((List (S73)))
 | 0, _, _, _ => none
 | k + 1, x0, x3, x4 => if x4 < (x0.length : Int) then (if 0 ≤ x4 then ((laws_toEntry.f ((rd_T85 x0 x4).f0) ((rd_T85 x0 x4).f1)).bind fun bt383 => (if x4 < (x3.length : Int) then (laws_toEntryS.l0 k x0 (x3.set (x4 : Int).toNat (⟨bt383.1, bt383.2⟩ : S73)) (wrap64 (x4 + 1))) else (none))) else (none)) else (some x3)
def laws_toEntryS.f (k : Nat) (l0 : List (S85)) : Option ((List (S73))) := if 0 ≤ (l0.length : Int) then (if l0.length ≤ 8796093022208 then (laws_toEntryS.l0 k l0 (List.replicate l0.length z73) 0) else (none)) else (none)
theorem laws_toEntryS.mono_l : ∀ k, (∀ y0 y1 y2, LeO (laws_toEntryS.l0 k y0 y1 y2) (laws_toEntryS.l0 (k + 1) y0 y1 y2))
 | 0 => fun _ _ _ r h => by simp [laws_toEntryS.l0] at h
 | k + 1 => by
  have ih0 := laws_toEntryS.mono_l k
  · intro y0 y1 y2
    unfold laws_toEntryS.l0
    exact mn_
theorem laws_toEntryS.mono : ∀ a0 k, LeO (laws_toEntryS.f k a0) (laws_toEntryS.f (k + 1) a0) := by
 intro a0 k
 have ih0 := laws_toEntryS.mono_l k
 unfold laws_toEntryS.f
 exact mn_
theorem laws_toEntryS.calls (k : Nat) (A0 : Option Addr) (c0 : Nat) (l0 : List (S85)) (r : List (S73)) (w : World) (hr0 : Kd.C k85 w A0 l0.length l0) (hc0 : l0.length ≤ c0) (h : laws_toEntryS.f k l0 = some r) :
 Calls Try.prog 33 #[.slice A0 l0.length c0] w fun e w' => ∃ v0_ : Value, e = .returned (v0_) ∧ Kd.R k73 73 w' w.heap.size (fun _ => True) v0_ r ∧ Below w.heap.size w w' := by
 have hu85 := Try.underlying85
 have hu73 := Try.underlying73
 have HR0 := Aside0.mk hr0
 have HC0 := Aside0.mk hc0
 clear hr0 hc0
 have HB := Aside0.mk (Below.refl w.heap.size w)
 unfold laws_toEntryS.f at h; have H := h; clear h
 replace H := inc_ H; obtain ⟨c2, H⟩ := H
 have c2b0 := eq_true c2
 have c2b1 : decide (0 ≤ (l0.length : Int)) = true := decide_eq_true c2
 clear c2
 replace H := inc_ H; obtain ⟨c3, H⟩ := H
 have c3b0 := eq_true c3
 have c3b1 : decide (l0.length ≤ 8796093022208) = true := decide_eq_true c3
 clear c3
 obtain ⟨y379, hy_⟩ : ∃ y_ : List (S73), y_ = (List.replicate l0.length z73) := ⟨_, rfl⟩
 replace H : (laws_toEntryS.l0 k l0 y379 0) = some r := ry_
 have Ny379 := Aside0.mk hy_; clear hy_
 have H' := Aside0.mk H; clear H
 go_enter Try.func33, Try.ntmps33
 go_wp2_with (first | ((with_reducible refine gate_dst (N := 7) rfl ?_); refine Kd.R_make k73 _ 73 rfl (N := 7) rfl 24 _ _ rfl (l0.length : Int) rfl rfl Try.underlying24 (.agg #[(.string ⟨#[]⟩), (.string ⟨#[]⟩)]) 32 info73 rfl (by decide) (by omega) z73 (ok := fun _ => True) (okp := fun _ => True) (k73_mkM _ _ _ z73 ) (fun _ hk => hk) trivial (od_) (Nat.le_trans (Nat.mul_le_mul_right _ (od_ : (l0.length : Int).toNat ≤ 8796093022208)) (by omega)) (Below.refl _ _) (Nat.le_refl _) ?_; intro v380 w4 ho5 hb hg_ hnew_; clear hg_ hnew_; (first | rw [← Ny379.out] at ho5 | (simp only [Int.reduceToNat, Int.toNat_natCast] at ho5; rw [← Ny379.out] at ho5)); have HO381 := Aside0.mk (Kd.R_lower ho5 (below_size (bl_))); replace HB := Aside0.mk (below_step (bl_) hb); clear hb ho5))
 go_loopg [4] k (fun kq v4 w' => ∃ (x3_1 : List (S73)) (x4_1 : Int), v4 = .int .i64 x4_1 ∧ Aside0 (laws_toEntryS.l0 kq l0 x3_1 x4_1 = some r) ∧ Aside0 (kq ≤ k) ∧ Aside0 (Kd.R k73 73 w' w.heap.size (fun _ => True) v380 x3_1) ∧ Aside0 (Below w.heap.size w w'))
 case atStart => exact ⟨(y379), (0), rf_, H', ⟨Nat.le_refl _⟩, ⟨kR_ HO381⟩, ⟨bl_⟩⟩
 case round =>
  clear H'
  (try clear c2);(try clear c2b0);(try clear c2b1);(try clear p2);(try clear c3);(try clear c3b0);(try clear c3b1)
  obtain ⟨x3_1, x4_1, rfl, HA, HK1, HO_3, HB⟩ := hrel
  cases gk with
  | zero => exact absurd HA.out (by simp [laws_toEntryS.l0])
  | succ k1 =>
   have H := HA.out
   clear HA
   simp only [laws_toEntryS.l0] at H
   replace H := iudd_ H; rcases H with ⟨c6b0, H⟩ | ⟨c6b0, H⟩
   · obtain rfl := Option.some.inj H
     go_wp2
     go_ret
     exact ⟨_, rfe_, kR_ HO_3, bl_⟩
   replace H := ind_ H; obtain ⟨c7b0, H⟩ := H
   replace H := Option.bind_eq_some_iff.mp H
   obtain ⟨⟨t383, t384⟩, A80, H⟩ := H; try dsimp only at H
   have A8 := Aside0.mk A80
   clear A80
   replace H := ind_ H; obtain ⟨c9b0, H⟩ := H
   obtain ⟨y385, hy_⟩ : ∃ y_ : List (S73), y_ = (x3_1.set (x4_1 : Int).toNat (⟨t383, t384⟩ : S73)) := ⟨_, rfl⟩
   replace H : (laws_toEntryS.l0 k1 l0 y385 (wrap64 (x4_1 + 1))) = some r := ry_
   have Ny385 := Aside0.mk hy_; clear hy_
   have H' := Aside0.mk H; clear H
   have p382 : 0 ≤ (x4_1 : Int) := od_
   have q382 : x4_1 < (l0.length : Int) := od_
   obtain ⟨ad382, e382, hx382_0, hx382_1⟩ := at_T85 HR0.out x4_1 p382 q382
   cases e382
   replace hx382_0 := hc_ HB hx382_0
   replace hx382_1 := hc_ HB hx382_1
   replace p382 := eq_true p382; replace q382 := eq_true q382
   go_wp2_with (first | ((with_reducible refine gate_callee (f := 59) rfl ?_); refine gl_ 20 Try.func59 #[.agg #[.string ((rd_T85 l0 x4_1).f0), .string ((rd_T85 l0 x4_1).f1)]] ?_; (with_reducible refine (laws_toEntry.calls ((rd_T85 l0 x4_1).f0) ((rd_T85 l0 x4_1).f1) t383 t384 _ A8.out).mono ?_); rintro e w11 ⟨rfl, hb⟩; refine ⟨_, rfl, ?_⟩; replace HO_3 := Aside0.mk (Kd.R_below (kR_ HO_3) hb); replace HB := Aside0.mk (below_step (bl_) hb); (try clear hb); (try clear hb2); (try clear hk); (try clear hi); have p10 : 0 ≤ (x4_1 : Int) := od_; have q10 : (x4_1 : Int) < ((x3_1.length : Int) : Int) := od_; obtain ⟨go10, co10, eo10, gb10, gl10, cl10, HG10⟩ := Kd.R_form HO_3.out (by omega); (first | cases eo10 | (injection eo10 with ea_ en_ ec_; (first | subst ea_ | (injection ea_ with ea_; subst ea_)); subst ec_; clear en_)); have GB10 := Aside0.mk gb10; have GG10 := Aside0.mk HG10; clear gb10 gl10 HG10; obtain ⟨ce10, hcl10, hM10, hcc10, hfr10⟩ := Kd.R_elem HO_3.out z73 (x4_1 : Int) p10 q10; obtain rfl := k73_openM hM10; have hx10_0 : w11.cell? ⟨go10, (x4_1 : Int).toNat * 2, none⟩ = some (.string ((rd_T73 x3_1 x4_1).f0)) := hcc10 0 _ rfl; have hx10_1 : w11.cell? ⟨go10, (x4_1 : Int).toNat * 2 + 1, none⟩ = some (.string ((rd_T73 x3_1 x4_1).f1)) := hcc10 1 _ rfl; have hf10_0 : w11.frozen? ⟨go10, (x4_1 : Int).toNat * 2, none⟩ = false := hfr10 0; have hf10_1 : w11.frozen? ⟨go10, (x4_1 : Int).toNat * 2 + 1, none⟩ = false := hfr10 1; clear hcl10 hcc10 hfr10 hM10; replace p10 := eq_true p10; replace q10 := eq_true q10; have HX12 := Aside0.mk (show Kd.R k73 73 w11 w.heap.size (fun _ => True) (.slice (some ⟨go10, 0, none⟩) x3_1.length co10) x3_1 from (kR_ HO_3)); obtain ⟨ce12, hcl12, hM12, hcc12, hfr12⟩ := Kd.R_elem HX12.out z73 (x4_1 : Int) (od_) (by have h_ : (x4_1 : Int) < ((x3_1.length : Int) : Int) := od_; first | exact h_ | (have e_ := (Kd.R_reads' HO_3.out).1; omega) | simpa using h_); obtain rfl := k73_openM hM12; have HP12 := Kd.R_seg HX12.out (x4_1 : Int) (od_) (by have h_ : (x4_1 : Int) < ((x3_1.length : Int) : Int) := od_; first | exact h_ | (have e_ := (Kd.R_reads' HO_3.out).1; omega) | simpa using h_) (seg := [.string t383, .string t384]) (j := 0) hcl12 hcc12 (show 2 ≤ 2 from by decide) (x' := (⟨t383, t384⟩ : S73)) (k73_mkM _ _ _ (⟨t383, t384⟩ : S73) ) (fun _ hk => hk); have hx12_0 := hcc12 0 _ rfl; (try simp only [show (k73).sz = 2 from rfl, Nat.mul_one, Nat.add_zero] at hx12_0); have hf12_0 := hfr12 0; (try simp only [show (k73).sz = 2 from rfl, Nat.mul_one, Nat.add_zero] at hf12_0); have hx12_1 := hcc12 1 _ rfl; (try simp only [show (k73).sz = 2 from rfl, Nat.mul_one, Nat.add_zero] at hx12_1); have hf12_1 := hfr12 1; (try simp only [show (k73).sz = 2 from rfl, Nat.mul_one, Nat.add_zero] at hf12_1); clear hcl12 hcc12 hfr12 hM12) | ((with_reducible refine gate_store (t := 73) (p := 21) rfl ?_); refine store_event (t := 73) (p := 21) (v := ?vo_w13) (w1 := ((w11.setCell ⟨go10, (x4_1 : Int).toNat * 2, none⟩ (.string t383)).setCell ⟨go10, (x4_1 : Int).toNat * 2 + 1, none⟩ (.string t384))) ?hg ?ho ?hn ?hr ?_; (case ho => rfl); (case hg => rfl); (case hn => rfl); (case hr => first | (go_simp; done) | (go_simp; rfl)); intro w13 hw; have hg : w11.grownBy w13 (some go10) := (by rw [hw]; exact HP12.2); have hp_ : Kd.R k73 73 w13 w.heap.size (fun _ => True) (.slice (some ⟨go10, 0, none⟩) x3_1.length co10) y385 := (by rw [hw, Ny385.out]; exact HP12.1); clear HP12; replace HO_3 := Aside0.mk (hp_); replace HB := Aside0.mk ((by rw [hw]; exact below_set (below_set (HB.out) GB10.out) GB10.out : Below w.heap.size w w13)); clear hg hw hp_))
   go_roundg k1
   case measure => have := HK1.out; omega
   case rel => exact ⟨(y385), (wrap64 (x4_1 + 1)), rf_, H', ⟨by have := HK1.out; omega⟩, ⟨kR_ HO_3⟩, ⟨bl_⟩⟩

/-! ### laws_toBook: function 11 -/
def laws_toBook.f (k : Nat) (l0_0 : List (S83)) (l0_1 : List (S85)) : Option ((List (S68)) × (List (S73))) := (laws_toAffixS.f k l0_0).bind fun t389 => ((laws_toEntryS.f k l0_1).bind fun t392 => (some (t389, t392)))
theorem laws_toBook.mono : ∀ a0 a1 k, LeO (laws_toBook.f k a0 a1) (laws_toBook.f (k + 1) a0 a1) := by
 intro a0 a1 k
 unfold laws_toBook.f
 have m0 := @laws_toAffixS.mono
 have m1 := @laws_toEntryS.mono
 exact mn_
theorem laws_toBook.calls (k : Nat) (A0_0 : Option Addr) (c0_0 : Nat) (l0_0 : List (S83)) (A0_1 : Option Addr) (c0_1 : Nat) (l0_1 : List (S85)) (r1 : List (S68)) (r2 : List (S73)) (w : World) (hr0_0 : Kd.C k83 w A0_0 l0_0.length l0_0) (hc0_0 : l0_0.length ≤ c0_0) (hr0_1 : Kd.C k85 w A0_1 l0_1.length l0_1) (hc0_1 : l0_1.length ≤ c0_1) (h : laws_toBook.f k l0_0 l0_1 = some (r1, r2)) :
 Calls Try.prog 11 #[.agg #[.slice A0_0 l0_0.length c0_0, .slice A0_1 l0_1.length c0_1]] w fun e w' => ∃ v0_ v1_ : Value, e = .returned (.agg #[v0_, v1_]) ∧ Kd.R k68 68 w' w.heap.size (fun _ => True) v0_ r1 ∧ Kd.R k73 73 w' w.heap.size (fun _ => True) v1_ r2 ∧ Below w.heap.size w w' := by
 have hu37 := Try.underlying37
 have hu26 := Try.underlying26
 have HR0_0 := Aside0.mk hr0_0
 have HC0_0 := Aside0.mk hc0_0
 clear hr0_0 hc0_0
 have HR0_1 := Aside0.mk hr0_1
 have HC0_1 := Aside0.mk hc0_1
 clear hr0_1 hc0_1
 have HB := Aside0.mk (Below.refl w.heap.size w)
 unfold laws_toBook.f at h; have H := h; clear h
 replace H := Option.bind_eq_some_iff.mp H
 obtain ⟨t389, A20, H⟩ := H; try dsimp only at H
 have A2 := Aside0.mk A20
 clear A20
 replace H := Option.bind_eq_some_iff.mp H
 obtain ⟨t392, A30, H⟩ := H; try dsimp only at H
 have A3 := Aside0.mk A30
 clear A30
 simp only [Option.some.injEq, Prod.mk.injEq] at H
 obtain ⟨rfl, rfl⟩ := H
 go_enter Try.func11, Try.ntmps11
 go_wp2_with (first | ((with_reducible refine gate_dst (N := 1) rfl ?_); refine be_ 1 37 #[.slice A0_0 l0_0.length c0_0, .slice A0_1 l0_1.length c0_1] ?_; intro gb386 hg w4 hbox hb; have BK386 := Aside0.mk (hbox); have GW386 := Aside0.mk ((gs_ hg : w.heap.size ≤ gb386)); have GE386 := Aside0.mk ((gs_ hg : w.heap.size ≤ gb386)); replace HB := Aside0.mk (below_step (bl_) hb); clear hb hbox hg) | ((with_reducible refine gate_dst (N := 2) rfl ?_); refine be_ 2 26 #[.slice none 0 0, .slice none 0 0] ?_; intro gb387 hg w5 hbox hb; have BK387 := Aside0.mk (hbox); have GW387 := Aside0.mk ((gs_ hg : w.heap.size ≤ gb387)); have GE387 := Aside0.mk ((gs_ hg : w.heap.size ≤ gb387)); replace HB := Aside0.mk (below_step (bl_) hb); have NB386_387 := Aside0.mk ((by rw [hg]; exact Nat.ne_of_lt (blk_lt (bk_ BK386)) : gb386 ≠ gb387)); have NB387_386 := Aside0.mk ((by rw [hg]; exact Nat.ne_of_gt (blk_lt (bk_ BK386)) : gb387 ≠ gb386)); replace BK386 := Aside0.mk (blk_below (bk_ BK386) hb); clear hb hbox hg) | ((with_reducible refine gate_dst (N := 3) rfl ?_); refine be_ 3 26 #[.slice none 0 0, .slice none 0 0] ?_; intro gb388 hg w6 hbox hb; have BK388 := Aside0.mk (hbox); have GW388 := Aside0.mk ((gs_ hg : w.heap.size ≤ gb388)); have GE388 := Aside0.mk ((gs_ hg : w.heap.size ≤ gb388)); replace HB := Aside0.mk (below_step (bl_) hb); have NB386_388 := Aside0.mk ((by rw [hg]; exact Nat.ne_of_lt (blk_lt (bk_ BK386)) : gb386 ≠ gb388)); have NB388_386 := Aside0.mk ((by rw [hg]; exact Nat.ne_of_gt (blk_lt (bk_ BK386)) : gb388 ≠ gb386)); replace BK386 := Aside0.mk (blk_below (bk_ BK386) hb); have NB387_388 := Aside0.mk ((by rw [hg]; exact Nat.ne_of_lt (blk_lt (bk_ BK387)) : gb387 ≠ gb388)); have NB388_387 := Aside0.mk ((by rw [hg]; exact Nat.ne_of_gt (blk_lt (bk_ BK387)) : gb388 ≠ gb387)); replace BK387 := Aside0.mk (blk_below (bk_ BK387) hb); clear hb hbox hg; have hnb7 := NB386_387.out; have hnc7 := NB387_386.out; have hnb8 := NB386_388.out; have hnc8 := NB388_386.out; have hcz9_0 := bc0_ BK386; have hcz9_1 := bc1_ BK386; have hfz9_0 := blk_frozen BK386.out 0; have hfz9_1 := blk_frozen BK386.out 1) | ((with_reducible refine gate_callee (f := 32) rfl ?_); refine gl_ 6 Try.func32 #[.slice A0_0 l0_0.length c0_0] ?_; (with_reducible refine (laws_toAffixS.calls k _ _ l0_0 t389 _ ?side1 ?side2 A2.out).mono ?_); (case side1 => exact cb_ HR0_0); (case side2 => exact HC0_0.out); rintro e w10 ⟨v390, rfl, ho0, hb⟩; refine ⟨_, rfl, ?_⟩; have HO391 := Aside0.mk (Kd.R_lower ho0 (below_size (bl_))); replace BK386 := Aside0.mk (blk_below (bk_ BK386) hb); replace BK387 := Aside0.mk (blk_below (bk_ BK387) hb); replace BK388 := Aside0.mk (blk_below (bk_ BK388) hb); replace HB := Aside0.mk (below_step (bl_) hb); (try clear hb); (try clear hb2); (try clear hk); (try clear hi); (try clear ho0); obtain ⟨Ao11, co11, eo11⟩ := Kd.R_slice HO391.out; subst eo11; have hnb12 := NB388_387.out; have hnc12 := NB387_388.out; have hcz13_0 := bc0_ BK388; have hcz13_1 := bc1_ BK388; have hfz13_0 := blk_frozen BK388.out 0; have hfz13_1 := blk_frozen BK388.out 1; have hcz14_0 := bc0_ BK386; have hcz14_1 := bc1_ BK386; have hfz14_0 := blk_frozen BK386.out 0; have hfz14_1 := blk_frozen BK386.out 1) | ((with_reducible refine gate_callee (f := 33) rfl ?_); refine gl_ 10 Try.func33 #[.slice A0_1 l0_1.length c0_1] ?_; (with_reducible refine (laws_toEntryS.calls k _ _ l0_1 t392 _ ?side1 ?side2 A3.out).mono ?_); (case side1 => exact Kd.C_below HR0_1.out (bl_)); (case side2 => exact HC0_1.out); rintro e w15 ⟨v393, rfl, ho0, hb⟩; refine ⟨_, rfl, ?_⟩; replace HO391 := Aside0.mk (Kd.R_below (by (with_reducible repeat (first | apply Kd.R_alloc | apply Kd.R_drewN | apply Kd.R_drew)); exact (Kd.R_mono (Kd.R_far (p := ⟨gb388, 0, none⟩) (Kd.R_types HO391.out BK388.out (by decide)) (fun _ hk => hk.2) (.slice Ao11 t389.length co11)) (fun _ h_ => h_.1))) hb); have HO394 := Aside0.mk (Kd.R_lower ho0 (below_size (bl_))); replace BK386 := Aside0.mk (blk_below (g := gb386) (o := .cells #[.slice A0_0 l0_0.length c0_0, .slice A0_1 l0_1.length c0_1] 37 (0, 0)) bq_ hb); replace BK387 := Aside0.mk (blk_below (g := gb387) (o := .cells #[.slice none 0 0, .slice none 0 0] 26 (0, 0)) bq_ hb); replace BK388 := Aside0.mk (blk_below (g := gb388) (o := .cells #[.slice Ao11 t389.length co11, .slice none 0 0] 26 (0, 0)) bq_ hb); replace HB := Aside0.mk (below_step (bl_) hb); (try clear hb); (try clear hb2); (try clear hk); (try clear hi); (try clear ho0); obtain ⟨Ao16, co16, eo16⟩ := Kd.R_slice HO394.out; subst eo16; have hcz17_0 := bc0_ BK388; have hcz17_1 := bc1_ BK388; have hfz17_0 := blk_frozen BK388.out 0; have hfz17_1 := blk_frozen BK388.out 1; have hcz18_0 := bc0_ BK387; have hcz18_1 := bc1_ BK387; have hfz18_0 := blk_frozen BK387.out 0; have hfz18_1 := blk_frozen BK387.out 1))
 refine bodyPost_ret (results_cell_row rfl _ _ gb387 26 #[.slice Ao11 t389.length co11, .slice Ao16 t392.length co16] (0, 0) _ rfl bq_ Try.underlying26 rfl (by kernel_rfl)) rfl ?_
 exact ⟨_, _, rfe_, by (with_reducible repeat (first | apply Kd.R_alloc | apply Kd.R_drewN | apply Kd.R_drew)); exact Kd.R_mono (Kd.R_far (p := ⟨gb387, 1, none⟩) (Kd.R_far (p := ⟨gb387, 0, none⟩) (Kd.R_far (p := ⟨gb388, 1, none⟩) (Kd.R_types (Kd.R_types HO391.out BK388.out (by decide)) BK387.out (by decide)) (fun _ hk => hk.1.2) (.slice Ao16 t392.length co16)) (fun _ hk => hk.2) (.slice Ao11 t389.length co11)) (fun _ hk => hk.2) (.slice Ao16 t392.length co16)) (fun _ hk => trivial), by (with_reducible repeat (first | apply Kd.R_alloc | apply Kd.R_drewN | apply Kd.R_drew)); exact Kd.R_mono (Kd.R_far (p := ⟨gb387, 1, none⟩) (Kd.R_far (p := ⟨gb387, 0, none⟩) (Kd.R_far (p := ⟨gb388, 1, none⟩) (Kd.R_types (Kd.R_types HO394.out BK388.out (by decide)) BK387.out (by decide)) (fun _ hk => hk.1.2) (.slice Ao16 t392.length co16)) (fun _ hk => hk.2) (.slice Ao11 t389.length co11)) (fun _ hk => hk.2) (.slice Ao16 t392.length co16)) (fun _ hk => trivial), bl_⟩

/-! ### laws_eqStringS: function 12 -/
def laws_eqStringS.l0 : Nat → List ByteArray → List ByteArray → Int → Option (Bool)
 | 0, _, _, _ => none
 | k + 1, x0, x1, x5 => if x5 < (x0.length : Int) then (if 0 ≤ x5 then (if x5 < (x1.length : Int) then (if (rdOf ByteArray.empty x0 x5).toList = (rdOf ByteArray.empty x1 x5).toList then (laws_eqStringS.l0 k x0 x1 (wrap64 (x5 + 1))) else (some false)) else (none)) else (none)) else (some true)
def laws_eqStringS.f (k : Nat) (l0 : List ByteArray) (l1 : List ByteArray) : Option (Bool) := if (l0.length : Int) = (l1.length : Int) then (laws_eqStringS.l0 k l0 l1 0) else (some false)
theorem laws_eqStringS.mono_l : ∀ k, (∀ y0 y1 y2, LeO (laws_eqStringS.l0 k y0 y1 y2) (laws_eqStringS.l0 (k + 1) y0 y1 y2))
 | 0 => fun _ _ _ r h => by simp [laws_eqStringS.l0] at h
 | k + 1 => by
  have ih0 := laws_eqStringS.mono_l k
  · intro y0 y1 y2
    unfold laws_eqStringS.l0
    exact mn_
theorem laws_eqStringS.mono : ∀ a0 a1 k, LeO (laws_eqStringS.f k a0 a1) (laws_eqStringS.f (k + 1) a0 a1) := by
 intro a0 a1 k
 have ih0 := laws_eqStringS.mono_l k
 unfold laws_eqStringS.f
 exact mn_
theorem laws_eqStringS.calls (k : Nat) (A0 : Option Addr) (c0 : Nat) (l0 : List ByteArray) (A1 : Option Addr) (c1 : Nat) (l1 : List ByteArray) (r : Bool) (w : World) (hr0 : Kd.C Kd.string w A0 l0.length l0) (hc0 : l0.length ≤ c0) (hr1 : Kd.C Kd.string w A1 l1.length l1) (hc1 : l1.length ≤ c1) (h : laws_eqStringS.f k l0 l1 = some r) :
 Calls Try.prog 12 #[.slice A0 l0.length c0, .slice A1 l1.length c1] w fun e w' => e = .returned (.bool r) ∧ Drawn0 w w' := by
 have HR0 := Aside0.mk hr0
 have HC0 := Aside0.mk hc0
 clear hr0 hc0
 have HR1 := Aside0.mk hr1
 have HC1 := Aside0.mk hc1
 clear hr1 hc1
 unfold laws_eqStringS.f at h; have H := h; clear h
 replace H := iucc_ H; rcases H with ⟨c3, H⟩ | ⟨c3, H⟩
 · have c3b0 : ((l0.length : Int) == (l1.length : Int)) = false := beq_eq_false_iff_ne.mpr c3
   have c3b1 : ((l0.length : Int) != (l1.length : Int)) = true := bne_iff_ne.mpr c3
   have c3b2 : (l0.length == l1.length) = false := by first | simpa using c3 | (simp at c3 ⊢; omega)
   obtain rfl := Option.some.inj H
   go_enter Try.func12, Try.ntmps12
   go_wp2
   repeat (go_quiet (fail); try go_wp2)
   go_ret
   exact ⟨rf_, dr_⟩
 have c3b0 : ((l0.length : Int) == (l1.length : Int)) = true := beq_iff_eq.mpr c3
 have c3b1 : ((l0.length : Int) != (l1.length : Int)) = false := bne_eq_false_iff_eq.mpr c3
 have c3b2 : (l0.length == l1.length) = true := by first | simpa using c3 | (simp at c3 ⊢; omega)
 clear c3
 have H' := Aside0.mk H; clear H
 go_enter Try.func12, Try.ntmps12
 go_wp2
 repeat (go_quiet (fail); try go_wp2)
 go_loopg [5] k (fun kq v5 w' => ∃ (x5_1 : Int), v5 = .int .i64 x5_1 ∧ Aside0 (laws_eqStringS.l0 kq l0 l1 x5_1 = some r) ∧ Aside0 (kq ≤ k) ∧ Drawn0 w w')
 case atStart => exact ⟨(0), rf_, H', ⟨Nat.le_refl _⟩, dr_⟩
 case round =>
  clear H'
  (try clear c1);(try clear p2);(try clear c3);(try clear c3b0);(try clear c3b1);(try clear c3b2)
  obtain ⟨x5_1, rfl, HA, HK1, ⟨m1, rfl⟩⟩ := hrel
  cases gk with
  | zero => exact absurd HA.out (by simp [laws_eqStringS.l0])
  | succ k1 =>
   have H := HA.out
   clear HA
   simp only [laws_eqStringS.l0] at H
   replace H := iudd_ H; rcases H with ⟨c4b0, H⟩ | ⟨c4b0, H⟩
   · obtain rfl := Option.some.inj H
     go_wp2
     repeat (go_quiet (fail); try go_wp2)
     go_ret
     exact ⟨rf_, dr_⟩
   replace H := ind_ H; obtain ⟨c5b0, H⟩ := H
   replace H := ind_ H; obtain ⟨c6b0, H⟩ := H
   replace H := iucc_ H; rcases H with ⟨c7, H⟩ | ⟨c7, H⟩
   · have c7b0 : ((rdOf ByteArray.empty l0 x5_1).toList == (rdOf ByteArray.empty l1 x5_1).toList) = false := beq_eq_false_iff_ne.mpr c7
     have c7b1 : ((rdOf ByteArray.empty l0 x5_1).toList != (rdOf ByteArray.empty l1 x5_1).toList) = true := bne_iff_ne.mpr c7
     obtain rfl := Option.some.inj H
     have p395 : 0 ≤ (x5_1 : Int) := od_
     have q395 : x5_1 < (l0.length : Int) := od_
     obtain ⟨ad395, e395, hx395_0⟩ := Kd.at_string HR0.out x5_1 p395 q395
     cases e395
     replace p395 := eq_true p395; replace q395 := eq_true q395
     have p396 : 0 ≤ (x5_1 : Int) := od_
     have q396 : x5_1 < (l1.length : Int) := od_
     obtain ⟨ad396, e396, hx396_0⟩ := Kd.at_string HR1.out x5_1 p396 q396
     cases e396
     replace p396 := eq_true p396; replace q396 := eq_true q396
     go_wp2
     repeat (go_quiet (fail); try go_wp2)
     go_ret
     exact ⟨rf_, dr_⟩
   have c7b0 : ((rdOf ByteArray.empty l0 x5_1).toList == (rdOf ByteArray.empty l1 x5_1).toList) = true := beq_iff_eq.mpr c7
   have c7b1 : ((rdOf ByteArray.empty l0 x5_1).toList != (rdOf ByteArray.empty l1 x5_1).toList) = false := bne_eq_false_iff_eq.mpr c7
   clear c7
   have H' := Aside0.mk H; clear H
   have p395 : 0 ≤ (x5_1 : Int) := od_
   have q395 : x5_1 < (l0.length : Int) := od_
   obtain ⟨ad395, e395, hx395_0⟩ := Kd.at_string HR0.out x5_1 p395 q395
   cases e395
   replace p395 := eq_true p395; replace q395 := eq_true q395
   have p396 : 0 ≤ (x5_1 : Int) := od_
   have q396 : x5_1 < (l1.length : Int) := od_
   obtain ⟨ad396, e396, hx396_0⟩ := Kd.at_string HR1.out x5_1 p396 q396
   cases e396
   replace p396 := eq_true p396; replace q396 := eq_true q396
   go_wp2
   repeat (go_quiet (fail); try go_wp2)
   go_roundg k1
   case measure => have := HK1.out; omega
   case rel => exact ⟨(wrap64 (x5_1 + 1)), rf_, H', ⟨by have := HK1.out; omega⟩, dr_⟩

end Go.Proofs.Ytbopiacjioedeaa.P
