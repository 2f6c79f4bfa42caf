-- Written by a program of this session (wip/gen/gen.py) out of Lean's print of the loaded program; Lean checks it.
import Derived.Test.YtbopiacjioedeaaP0
import Derived.Test.YtbopiacjioedeaaSq2
namespace Go.Proofs.Ytbopiacjioedeaa.P
open Go.RowKit Go.Proofs.YtbopiacjioedeaaW.PrintWords Go.Proofs.YtbopiacjioedeaaW.PrintLast Go.Proofs.YtbopiacjioedeaaW.PrintMore
attribute [local go_sem] max2_int min2_int max_two min_two max_three min_three max_four min_four IntKind.wrap_u8 IntKind.wrap_u32 w64_256 w64_u32
set_option maxHeartbeats 8000000
set_option maxRecDepth 100000
set_option linter.unusedVariables false
set_option linter.unusedSimpArgs false

/-! ### spec_l1Letters: function 51 -/
def spec_l1Letters.l0 : Nat → ByteArray → Int → Int → Option (Bool)
 | 0, _, _, _ => none
 | k + 1, x0, x1, x5 => if x5 < (x0.size : Int) then (if 0 ≤ x5 then (if (bt x0 x5) < 97 then (some false) else (if (bt x0 x5) > 122 then (some false) else (spec_l1Letters.l0 k x0 x1 (wrap64 (x5 + 1))))) else (none)) else (some (decide ((x0.size : Int) ≤ x1)))
def spec_l1Letters.f (k : Nat) (a0 : ByteArray) (a1 : Int) : Option (Bool) := spec_l1Letters.l0 k a0 a1 0
theorem spec_l1Letters.mono_l : ∀ k, (∀ y0 y1 y2, LeO (spec_l1Letters.l0 k y0 y1 y2) (spec_l1Letters.l0 (k + 1) y0 y1 y2))
 | 0 => fun _ _ _ r h => by simp [spec_l1Letters.l0] at h
 | k + 1 => by
  have ih0 := spec_l1Letters.mono_l k
  · intro y0 y1 y2
    unfold spec_l1Letters.l0
    exact mn_
theorem spec_l1Letters.mono : ∀ a0 a1 k, LeO (spec_l1Letters.f k a0 a1) (spec_l1Letters.f (k + 1) a0 a1) := by
 intro a0 a1 k
 have ih0 := spec_l1Letters.mono_l k
 unfold spec_l1Letters.f
 exact mn_
theorem spec_l1Letters.calls (k : Nat) (a0 : ByteArray) (a1 : Int) (r : Bool) (w : World) (h : spec_l1Letters.f k a0 a1 = some r) :
 Calls Try.prog 51 #[.string a0, .int .i64 a1] w fun e w' => e = .returned (.bool r) ∧ Drawn0 w w' := by
 unfold spec_l1Letters.f at h; have H := h; clear h
 have H' := Aside0.mk H; clear H
 go_enter Try.func51, Try.ntmps51
 go_wp2
 go_loopg [5] k (fun kq v5 w' => ∃ (x5_1 : Int), v5 = .int .i64 x5_1 ∧ Aside0 (spec_l1Letters.l0 kq a0 a1 x5_1 = some r) ∧ Aside0 (kq ≤ k) ∧ Drawn0 w w')
 case atStart => exact ⟨(0), rf_, H', ⟨Nat.le_refl _⟩, dr_⟩
 case round =>
  clear H'
  try clear p2
  obtain ⟨x5_1, rfl, HA, HK1, ⟨m1, rfl⟩⟩ := hrel
  cases gk with
  | zero => exact absurd HA.out (by simp [spec_l1Letters.l0])
  | succ k1 =>
   have H := HA.out
   clear HA
   simp only [spec_l1Letters.l0] at H
   replace H := iudd_ H; rcases H with ⟨c3b0, H⟩ | ⟨c3b0, H⟩
   · obtain rfl := Option.some.inj H
     go_wp2
     go_ret
     exact ⟨rf_, dr_⟩
   replace H := ind_ H; obtain ⟨c4b0, H⟩ := H
   replace H := itdd_ H; rcases H with ⟨c6b0, H⟩ | ⟨c6b0, H⟩
   · obtain rfl := Option.some.inj H
     have p5 : 0 ≤ (x5_1 : Int) := od_
     have q5 : x5_1 < (a0.size : Int) := od_
     have hx5 := bt_at a0 x5_1
     replace p5 := eq_true p5; replace q5 := eq_true q5
     go_wp2
     go_ret
     exact ⟨rf_, dr_⟩
   replace H := itcc_ H; rcases H with ⟨c8, H⟩ | ⟨c8, H⟩
   · have c8b0 : decide (122 < (bt a0 x5_1)) = true := decide_eq_true c8
     clear c8
     obtain rfl := Option.some.inj H
     have p5 : 0 ≤ (x5_1 : Int) := od_
     have q5 : x5_1 < (a0.size : Int) := od_
     have hx5 := bt_at a0 x5_1
     replace p5 := eq_true p5; replace q5 := eq_true q5
     have p7 : 0 ≤ (x5_1 : Int) := od_
     have q7 : x5_1 < (a0.size : Int) := od_
     have hx7 := bt_at a0 x5_1
     replace p7 := eq_true p7; replace q7 := eq_true q7
     go_wp2
     go_ret
     exact ⟨rf_, dr_⟩
   have c8b0 : decide (122 < (bt a0 x5_1)) = false := decide_eq_false c8
   clear c8
   have H' := Aside0.mk H; clear H
   have p5 : 0 ≤ (x5_1 : Int) := od_
   have q5 : x5_1 < (a0.size : Int) := od_
   have hx5 := bt_at a0 x5_1
   replace p5 := eq_true p5; replace q5 := eq_true q5
   have p7 : 0 ≤ (x5_1 : Int) := od_
   have q7 : x5_1 < (a0.size : Int) := od_
   have hx7 := bt_at a0 x5_1
   replace p7 := eq_true p7; replace q7 := eq_true q7
   go_wp2
   go_roundg k1
   case measure => have := HK1.out; omega
   case rel => exact ⟨(wrap64 (x5_1 + 1)), rf_, H', ⟨by have := HK1.out; omega⟩, dr_⟩

/-! ### spec_l1Word: function 26 -/
def spec_l1Word.f (k : Nat) (a0 : ByteArray) : Option (Bool) := if (a0.size : Int) > 0 then ((spec_l1Letters.f k a0 12).bind fun t237 => (some t237)) else (some false)
theorem spec_l1Word.mono : ∀ a0 k, LeO (spec_l1Word.f k a0) (spec_l1Word.f (k + 1) a0) := by
 intro a0 k
 unfold spec_l1Word.f
 have m0 := @spec_l1Letters.mono
 exact mn_
theorem spec_l1Word.calls (k : Nat) (a0 : ByteArray) (r : Bool) (w : World) (h : spec_l1Word.f k a0 = some r) :
 Calls Try.prog 26 #[.string a0] w fun e w' => e = .returned (.bool r) ∧ Drawn0 w w' := by
 unfold spec_l1Word.f at h; have H := h; clear h
 replace H := iucc_ H; rcases H with ⟨c2, H⟩ | ⟨c2, H⟩
 · have c2b0 : decide (0 < (a0.size : Int)) = false := decide_eq_false c2
   have c2b1 : decide (0 < a0.size) = false := decide_eq_false (by omega)
   clear c2
   obtain rfl := Option.some.inj H
   go_enter Try.func26, Try.ntmps26
   go_wp2
   go_ret
   exact ⟨rf_, dr_⟩
 have c2b0 : decide (0 < (a0.size : Int)) = true := decide_eq_true c2
 have c2b1 : decide (0 < a0.size) = true := decide_eq_true (by omega)
 clear c2
 replace H := Option.bind_eq_some_iff.mp H
 obtain ⟨t237, A30, H⟩ := H; try dsimp only at H
 have A3 := Aside0.mk A30
 clear A30
 obtain rfl := Option.some.inj H
 go_enter Try.func26, Try.ntmps26
 go_wp2_with (first | (go_at_call 51; (with_reducible refine (spec_l1Letters.calls k a0 12 t237 _ A3.out).mono ?_); rintro e w' ⟨rfl, ⟨nd, rfl⟩⟩))
 go_ret
 exact ⟨rf_, dr_⟩

/-! ### spec_l2Flag: function 73 -/
def spec_l2Flag.f (a0 : ByteArray) : Option (Bool) := if (a0.size : Int) = 1 then (if 0 < (a0.size : Int) then (if (bt a0 0) ≥ 65 then (some (decide ((bt a0 0) ≤ 90))) else (some false)) else (none)) else (some false)
theorem spec_l2Flag.calls (a0 : ByteArray) (r : Bool) (w : World) (h : spec_l2Flag.f a0 = some r) :
 Calls Try.prog 73 #[.string a0] w fun e w' => e = .returned (.bool r) ∧ Drawn0 w w' := by
 unfold spec_l2Flag.f at h; have H := h; clear h
 replace H := iucc_ H; rcases H with ⟨c2, H⟩ | ⟨c2, H⟩
 · have c2b0 : ((a0.size : Int) == 1) = false := beq_eq_false_iff_ne.mpr c2
   have c2b1 : ((a0.size : Int) != 1) = true := bne_iff_ne.mpr c2
   obtain rfl := Option.some.inj H
   go_enter Try.func73, Try.ntmps73
   go_wp2
   go_ret
   exact ⟨rf_, dr_⟩
 have c2b0 : ((a0.size : Int) == 1) = true := beq_iff_eq.mpr c2
 have c2b1 : ((a0.size : Int) != 1) = false := bne_eq_false_iff_eq.mpr c2
 clear c2
 replace H := inc_ H; obtain ⟨c3, H⟩ := H
 have c3b0 : decide (0 < (a0.size : Int)) = true := decide_eq_true c3
 have c3b1 : decide (0 < a0.size) = true := decide_eq_true (by omega)
 clear c3
 replace H := iucc_ H; rcases H with ⟨c5, H⟩ | ⟨c5, H⟩
 · have c5b0 : decide (65 ≤ (bt a0 0)) = false := decide_eq_false c5
   clear c5
   obtain rfl := Option.some.inj H
   have p4 : 0 ≤ (0 : Int) := (by omega)
   have q4 : 0 < a0.size := (by have : (0 : Int) < (a0.size : Int) := od_; omega)
   have hx4 : ∀ h : 0 < a0.size, ((a0[0]'h).toNat : Int) = bt a0 0 := bt_at a0 0
   clear p4
   have qi4 : (0 < (a0.size : Int)) = True := eq_true (od_)
   replace q4 := eq_true q4
   go_enter Try.func73, Try.ntmps73
   go_wp2
   go_ret
   exact ⟨rf_, dr_⟩
 have c5b0 : decide (65 ≤ (bt a0 0)) = true := decide_eq_true c5
 clear c5
 obtain rfl := Option.some.inj H
 have p4 : 0 ≤ (0 : Int) := (by omega)
 have q4 : 0 < a0.size := (by have : (0 : Int) < (a0.size : Int) := od_; omega)
 have hx4 : ∀ h : 0 < a0.size, ((a0[0]'h).toNat : Int) = bt a0 0 := bt_at a0 0
 clear p4
 have qi4 : (0 < (a0.size : Int)) = True := eq_true (od_)
 replace q4 := eq_true q4
 have p6 : 0 ≤ (0 : Int) := (by omega)
 have q6 : 0 < a0.size := (by have : (0 : Int) < (a0.size : Int) := od_; omega)
 have hx6 : ∀ h : 0 < a0.size, ((a0[0]'h).toNat : Int) = bt a0 0 := bt_at a0 0
 clear p6
 have qi6 : (0 < (a0.size : Int)) = True := eq_true (od_)
 replace q6 := eq_true q6
 go_enter Try.func73, Try.ntmps73
 go_wp2
 go_ret
 exact ⟨rf_, dr_⟩

/-! ### spec_l2Entry: function 49 -/
def spec_l2Entry.l0 : Nat → Int → ByteArray → ByteArray → Option (Bool)
 | 0, _, _, _ => none
 | k + 1, x3, x239000, x239001 => if x3 < (x239001.size : Int) then (if 0 ≤ x3 then (if x3 ≤ (wrap64 (x3 + 1)) then (if (wrap64 (x3 + 1)) ≤ (x239001.size : Int) then ((spec_l2Flag.f (x239001.extract (x3 : Int).toNat ((wrap64 (x3 + 1)) : Int).toNat)).bind fun t239 => (if t239 = true then (if x3 > 0 then (if 0 ≤ (wrap64 (x3 - 1)) then (if (wrap64 (x3 - 1)) < (x239001.size : Int) then (if (bt x239001 (wrap64 (x3 - 1))) ≥ (bt x239001 x3) then (some false) else (spec_l2Entry.l0 k (wrap64 (x3 + 1)) x239000 x239001)) else (none)) else (none)) else (spec_l2Entry.l0 k (wrap64 (x3 + 1)) x239000 x239001)) else (some false))) else (none)) else (none)) else (none)) else ((spec_l1Word.f k x239000).bind fun t240 => (if t240 = true then (some (decide ((x239001.size : Int) ≤ 4))) else (some false)))
def spec_l2Entry.f (k : Nat) (a0_0 : ByteArray) (a0_1 : ByteArray) : Option (Bool) := spec_l2Entry.l0 k 0 a0_0 a0_1
theorem spec_l2Entry.mono_l : ∀ k, (∀ y0 y1 y2, LeO (spec_l2Entry.l0 k y0 y1 y2) (spec_l2Entry.l0 (k + 1) y0 y1 y2))
 | 0 => fun _ _ _ r h => by simp [spec_l2Entry.l0] at h
 | k + 1 => by
  have ih0 := spec_l2Entry.mono_l k
  · intro y0 y1 y2
    unfold spec_l2Entry.l0
    have m0 := @spec_l1Word.mono
    exact mn_
theorem spec_l2Entry.mono : ∀ a0 a1 k, LeO (spec_l2Entry.f k a0 a1) (spec_l2Entry.f (k + 1) a0 a1) := by
 intro a0 a1 k
 have ih0 := spec_l2Entry.mono_l k
 unfold spec_l2Entry.f
 have m0 := @spec_l1Word.mono
 exact mn_
theorem spec_l2Entry.calls (k : Nat) (a0_0 : ByteArray) (a0_1 : ByteArray) (r : Bool) (w : World) (h : spec_l2Entry.f k a0_0 a0_1 = some r) :
 Calls Try.prog 49 #[.agg #[.string a0_0, .string a0_1]] w fun e w' => e = .returned (.bool r) ∧ Below w.heap.size w w' := by
 have hu73 := Try.underlying73
 have HB := Aside0.mk (Below.refl w.heap.size w)
 unfold spec_l2Entry.f at h; have H := h; clear h
 have H' := Aside0.mk H; clear H
 go_enter Try.func49, Try.ntmps49
 go_wp2_with (first | ((with_reducible refine gate_dst (N := 1) rfl ?_); (try (refine gate_guard (by rfl) ?_; dsimp only)); refine be_ 1 73 #[.string a0_0, .string a0_1] ?_; intro gb238 hg w2 hbox hb; have BK238 := Aside0.mk (hbox); have GW238 := Aside0.mk ((gs_ hg : w.heap.size ≤ gb238)); have GE238 := Aside0.mk ((gs_ hg : w.heap.size ≤ gb238)); replace HB := Aside0.mk (below_step (bl_) hb); clear hb hbox hg))
 repeat (go_quiet (first | ((with_reducible refine gate_dst (N := 1) rfl ?_); (try (refine gate_guard (by rfl) ?_; dsimp only)); refine be_ 1 73 #[.string a0_0, .string a0_1] ?_; intro gb238 hg w2 hbox hb; have BK238 := Aside0.mk (hbox); have GW238 := Aside0.mk ((gs_ hg : w.heap.size ≤ gb238)); have GE238 := Aside0.mk ((gs_ hg : w.heap.size ≤ gb238)); replace HB := Aside0.mk (below_step (bl_) hb); clear hb hbox hg)); try go_wp2_with (first | ((with_reducible refine gate_dst (N := 1) rfl ?_); (try (refine gate_guard (by rfl) ?_; dsimp only)); refine be_ 1 73 #[.string a0_0, .string a0_1] ?_; intro gb238 hg w2 hbox hb; have BK238 := Aside0.mk (hbox); have GW238 := Aside0.mk ((gs_ hg : w.heap.size ≤ gb238)); have GE238 := Aside0.mk ((gs_ hg : w.heap.size ≤ gb238)); replace HB := Aside0.mk (below_step (bl_) hb); clear hb hbox hg)))
 go_loopg [3] k (fun kq v3 w' => ∃ (x3_1 : Int), v3 = .int .i64 x3_1 ∧ Aside0 (spec_l2Entry.l0 kq x3_1 a0_0 a0_1 = some r) ∧ Aside0 (kq ≤ k) ∧ Aside0 (w'.heap[gb238]? = some (.cells #[.string a0_0, .string a0_1] 73 (0, 0))) ∧ Aside0 (Below w.heap.size w w'))
 case atStart => exact ⟨(0), rf_, H', ⟨Nat.le_refl _⟩, ⟨by (with_reducible repeat (first | refine blk_drewN ?_ _ | refine blk_drew ?_ | refine blk_alloc ?_ _)); exact BK238.out⟩, ⟨bl_⟩⟩
 case round =>
  clear H'
  try clear p2
  obtain ⟨x3_1, rfl, HA, HK1, BK238, HB⟩ := hrel
  cases gk with
  | zero => exact absurd HA.out (by simp [spec_l2Entry.l0])
  | succ k1 =>
   have H := HA.out
   clear HA
   simp only [spec_l2Entry.l0] at H
   replace H := iudd_ H; rcases H with ⟨c3b0, H⟩ | ⟨c3b0, H⟩
   · replace H := Option.bind_eq_some_iff.mp H
     obtain ⟨t240, A200, H⟩ := H; try dsimp only at H
     have A20 := Aside0.mk A200
     clear A200
     replace H := itb_ H; rcases H with ⟨rfl, H⟩ | ⟨rfl, H⟩
     · obtain rfl := Option.some.inj H
       have hcz22_0 := bc0_ BK238
       have hcz22_1 := bc1_ BK238
       have hfz22_0 := blk_frozen BK238.out 0
       have hfz22_1 := blk_frozen BK238.out 1
       go_wp2_with (first | (go_at_call 26; (with_reducible refine (spec_l1Word.calls k1 a0_0 true _ A20.out).mono ?_); rintro e w' ⟨rfl, ⟨nd, rfl⟩⟩; (try first | exact ⟨rfl, _, World.drewN_drewN _ _ _⟩ | exact ⟨rfl, _, Eq.trans (World.drewN_drewN _ _ _) (congrArg (World.drewN _) (Nat.add_assoc _ _ _))⟩)))
       repeat (go_quiet (first | (go_at_call 26; (with_reducible refine (spec_l1Word.calls k1 a0_0 true _ A20.out).mono ?_); rintro e w' ⟨rfl, ⟨nd, rfl⟩⟩; (try first | exact ⟨rfl, _, World.drewN_drewN _ _ _⟩ | exact ⟨rfl, _, Eq.trans (World.drewN_drewN _ _ _) (congrArg (World.drewN _) (Nat.add_assoc _ _ _))⟩))); try go_wp2_with (first | (go_at_call 26; (with_reducible refine (spec_l1Word.calls k1 a0_0 true _ A20.out).mono ?_); rintro e w' ⟨rfl, ⟨nd, rfl⟩⟩; (try first | exact ⟨rfl, _, World.drewN_drewN _ _ _⟩ | exact ⟨rfl, _, Eq.trans (World.drewN_drewN _ _ _) (congrArg (World.drewN _) (Nat.add_assoc _ _ _))⟩))))
       go_ret
       exact ⟨rfe_, bl_⟩
     obtain rfl := Option.some.inj H
     have hcz23_0 := bc0_ BK238
     have hcz23_1 := bc1_ BK238
     have hfz23_0 := blk_frozen BK238.out 0
     have hfz23_1 := blk_frozen BK238.out 1
     go_wp2_with (first | (go_at_call 26; (with_reducible refine (spec_l1Word.calls k1 a0_0 false _ A20.out).mono ?_); rintro e w' ⟨rfl, ⟨nd, rfl⟩⟩; (try first | exact ⟨rfl, _, World.drewN_drewN _ _ _⟩ | exact ⟨rfl, _, Eq.trans (World.drewN_drewN _ _ _) (congrArg (World.drewN _) (Nat.add_assoc _ _ _))⟩)))
     repeat (go_quiet (first | (go_at_call 26; (with_reducible refine (spec_l1Word.calls k1 a0_0 false _ A20.out).mono ?_); rintro e w' ⟨rfl, ⟨nd, rfl⟩⟩; (try first | exact ⟨rfl, _, World.drewN_drewN _ _ _⟩ | exact ⟨rfl, _, Eq.trans (World.drewN_drewN _ _ _) (congrArg (World.drewN _) (Nat.add_assoc _ _ _))⟩))); try go_wp2_with (first | (go_at_call 26; (with_reducible refine (spec_l1Word.calls k1 a0_0 false _ A20.out).mono ?_); rintro e w' ⟨rfl, ⟨nd, rfl⟩⟩; (try first | exact ⟨rfl, _, World.drewN_drewN _ _ _⟩ | exact ⟨rfl, _, Eq.trans (World.drewN_drewN _ _ _) (congrArg (World.drewN _) (Nat.add_assoc _ _ _))⟩))))
     go_ret
     exact ⟨rfe_, bl_⟩
   replace H := inc_ H; obtain ⟨c4, H⟩ := H
   have c4b0 := eq_true c4
   have c4b1 : decide (0 ≤ x3_1) = true := decide_eq_true c4
   clear c4
   replace H := inc_ H; obtain ⟨c5, H⟩ := H
   have c5b0 := eq_true c5
   have c5b1 : decide (x3_1 ≤ (wrap64 (x3_1 + 1))) = true := decide_eq_true c5
   replace H := inc_ H; obtain ⟨c6, H⟩ := H
   have c6b0 := eq_true c6
   have c6b1 : decide ((wrap64 (x3_1 + 1)) ≤ (a0_1.size : Int)) = true := decide_eq_true c6
   replace H := Option.bind_eq_some_iff.mp H
   obtain ⟨t239, A70, H⟩ := H; try dsimp only at H
   have A7 := Aside0.mk A70
   clear A70
   replace H := iub_ H; rcases H with ⟨rfl, H⟩ | ⟨rfl, H⟩
   · obtain rfl := Option.some.inj H
     have hcz19_0 := bc0_ BK238
     have hcz19_1 := bc1_ BK238
     have hfz19_0 := blk_frozen BK238.out 0
     have hfz19_1 := blk_frozen BK238.out 1
     go_wp2_with (first | (go_at_call 73; (with_reducible refine (spec_l2Flag.calls (a0_1.extract (x3_1 : Int).toNat ((wrap64 (x3_1 + 1)) : Int).toNat) false _ A7.out).mono ?_); rintro e w' ⟨rfl, ⟨nd, rfl⟩⟩; (try first | exact ⟨rfl, _, World.drewN_drewN _ _ _⟩ | exact ⟨rfl, _, Eq.trans (World.drewN_drewN _ _ _) (congrArg (World.drewN _) (Nat.add_assoc _ _ _))⟩)))
     repeat (go_quiet (first | (go_at_call 73; (with_reducible refine (spec_l2Flag.calls (a0_1.extract (x3_1 : Int).toNat ((wrap64 (x3_1 + 1)) : Int).toNat) false _ A7.out).mono ?_); rintro e w' ⟨rfl, ⟨nd, rfl⟩⟩; (try first | exact ⟨rfl, _, World.drewN_drewN _ _ _⟩ | exact ⟨rfl, _, Eq.trans (World.drewN_drewN _ _ _) (congrArg (World.drewN _) (Nat.add_assoc _ _ _))⟩))); try go_wp2_with (first | (go_at_call 73; (with_reducible refine (spec_l2Flag.calls (a0_1.extract (x3_1 : Int).toNat ((wrap64 (x3_1 + 1)) : Int).toNat) false _ A7.out).mono ?_); rintro e w' ⟨rfl, ⟨nd, rfl⟩⟩; (try first | exact ⟨rfl, _, World.drewN_drewN _ _ _⟩ | exact ⟨rfl, _, Eq.trans (World.drewN_drewN _ _ _) (congrArg (World.drewN _) (Nat.add_assoc _ _ _))⟩))))
     go_ret
     exact ⟨rfe_, bl_⟩
   replace H := iucc_ H; rcases H with ⟨c9, H⟩ | ⟨c9, H⟩
   · have c9b0 : decide (0 < x3_1) = false := decide_eq_false c9
     clear c9
     have H' := Aside0.mk H; clear H
     have hcz18_0 := bc0_ BK238
     have hcz18_1 := bc1_ BK238
     have hfz18_0 := blk_frozen BK238.out 0
     have hfz18_1 := blk_frozen BK238.out 1
     go_wp2_with (first | (go_at_call 73; (with_reducible refine (spec_l2Flag.calls (a0_1.extract (x3_1 : Int).toNat ((wrap64 (x3_1 + 1)) : Int).toNat) true _ A7.out).mono ?_); rintro e w' ⟨rfl, ⟨nd, rfl⟩⟩; (try first | exact ⟨rfl, _, World.drewN_drewN _ _ _⟩ | exact ⟨rfl, _, Eq.trans (World.drewN_drewN _ _ _) (congrArg (World.drewN _) (Nat.add_assoc _ _ _))⟩)))
     repeat (go_quiet (first | (go_at_call 73; (with_reducible refine (spec_l2Flag.calls (a0_1.extract (x3_1 : Int).toNat ((wrap64 (x3_1 + 1)) : Int).toNat) true _ A7.out).mono ?_); rintro e w' ⟨rfl, ⟨nd, rfl⟩⟩; (try first | exact ⟨rfl, _, World.drewN_drewN _ _ _⟩ | exact ⟨rfl, _, Eq.trans (World.drewN_drewN _ _ _) (congrArg (World.drewN _) (Nat.add_assoc _ _ _))⟩))); try go_wp2_with (first | (go_at_call 73; (with_reducible refine (spec_l2Flag.calls (a0_1.extract (x3_1 : Int).toNat ((wrap64 (x3_1 + 1)) : Int).toNat) true _ A7.out).mono ?_); rintro e w' ⟨rfl, ⟨nd, rfl⟩⟩; (try first | exact ⟨rfl, _, World.drewN_drewN _ _ _⟩ | exact ⟨rfl, _, Eq.trans (World.drewN_drewN _ _ _) (congrArg (World.drewN _) (Nat.add_assoc _ _ _))⟩))))
     go_roundg k1
     case measure => have := HK1.out; omega
     case rel => exact ⟨(wrap64 (x3_1 + 1)), rf_, H', ⟨by have := HK1.out; omega⟩, ⟨by (with_reducible repeat (first | refine blk_drewN ?_ _ | refine blk_drew ?_ | refine blk_alloc ?_ _)); exact BK238.out⟩, ⟨bl_⟩⟩
   have c9b0 : decide (0 < x3_1) = true := decide_eq_true c9
   clear c9
   obtain ⟨ji10, hji10⟩ : ∃ j_ : Int, (wrap64 (x3_1 - 1)) = j_ := ⟨_, rfl⟩
   replace H : (if 0 ≤ (ji10) then (if (ji10) < (a0_1.size : Int) then (if (bt a0_1 (ji10)) ≥ (bt a0_1 x3_1) then (some false) else (spec_l2Entry.l0 k1 (wrap64 (x3_1 + 1)) a0_0 a0_1)) else (none)) else (none)) = some r := by first | (rw [hji10] at H; exact H) | (simp only [hji10] at H ⊢; exact H)
   (try rw [hji10] at A7)
   have hji10w : (IntKind.i64.wrap (x3_1 - 1)) = ji10 := (i64_w _).trans hji10
   try have hww0_ : IntKind.i64.wrap (x3_1 + 1) = wrap64 (x3_1 + 1) := i64_w _
   replace H := ind_ H; obtain ⟨c11b0, H⟩ := H
   replace H := ind_ H; obtain ⟨c12b0, H⟩ := H
   replace H := itcc_ H; rcases H with ⟨c15, H⟩ | ⟨c15, H⟩
   · have c15b0 : decide ((bt a0_1 x3_1) ≤ (bt a0_1 (ji10))) = true := decide_eq_true c15
     clear c15
     obtain rfl := Option.some.inj H
     have hcz16_0 := bc0_ BK238
     have hcz16_1 := bc1_ BK238
     have hfz16_0 := blk_frozen BK238.out 0
     have hfz16_1 := blk_frozen BK238.out 1
     go_wp2_with (first | (go_at_call 73; (with_reducible refine (spec_l2Flag.calls (a0_1.extract (x3_1 : Int).toNat ((wrap64 (x3_1 + 1)) : Int).toNat) true _ A7.out).mono ?_); rintro e w' ⟨rfl, ⟨nd, rfl⟩⟩; (try first | exact ⟨rfl, _, World.drewN_drewN _ _ _⟩ | exact ⟨rfl, _, Eq.trans (World.drewN_drewN _ _ _) (congrArg (World.drewN _) (Nat.add_assoc _ _ _))⟩); have p13 : 0 ≤ ((ji10) : Int) := od_; have q13 : (ji10) < (a0_1.size : Int) := od_; have hx13 := bt_at a0_1 (ji10); replace p13 := eq_true p13; replace q13 := eq_true q13; have p14 : 0 ≤ (x3_1 : Int) := od_; have q14 : x3_1 < (a0_1.size : Int) := od_; have hx14 := bt_at a0_1 x3_1; replace p14 := eq_true p14; replace q14 := eq_true q14))
     repeat (go_quiet (first | (go_at_call 73; (with_reducible refine (spec_l2Flag.calls (a0_1.extract (x3_1 : Int).toNat ((wrap64 (x3_1 + 1)) : Int).toNat) true _ A7.out).mono ?_); rintro e w' ⟨rfl, ⟨nd, rfl⟩⟩; (try first | exact ⟨rfl, _, World.drewN_drewN _ _ _⟩ | exact ⟨rfl, _, Eq.trans (World.drewN_drewN _ _ _) (congrArg (World.drewN _) (Nat.add_assoc _ _ _))⟩); have p13 : 0 ≤ ((ji10) : Int) := od_; have q13 : (ji10) < (a0_1.size : Int) := od_; have hx13 := bt_at a0_1 (ji10); replace p13 := eq_true p13; replace q13 := eq_true q13; have p14 : 0 ≤ (x3_1 : Int) := od_; have q14 : x3_1 < (a0_1.size : Int) := od_; have hx14 := bt_at a0_1 x3_1; replace p14 := eq_true p14; replace q14 := eq_true q14)); try go_wp2_with (first | (go_at_call 73; (with_reducible refine (spec_l2Flag.calls (a0_1.extract (x3_1 : Int).toNat ((wrap64 (x3_1 + 1)) : Int).toNat) true _ A7.out).mono ?_); rintro e w' ⟨rfl, ⟨nd, rfl⟩⟩; (try first | exact ⟨rfl, _, World.drewN_drewN _ _ _⟩ | exact ⟨rfl, _, Eq.trans (World.drewN_drewN _ _ _) (congrArg (World.drewN _) (Nat.add_assoc _ _ _))⟩); have p13 : 0 ≤ ((ji10) : Int) := od_; have q13 : (ji10) < (a0_1.size : Int) := od_; have hx13 := bt_at a0_1 (ji10); replace p13 := eq_true p13; replace q13 := eq_true q13; have p14 : 0 ≤ (x3_1 : Int) := od_; have q14 : x3_1 < (a0_1.size : Int) := od_; have hx14 := bt_at a0_1 x3_1; replace p14 := eq_true p14; replace q14 := eq_true q14)))
     go_ret
     exact ⟨by first | rfl | (simp [errW_none, errW_some] <;> rfl) | (simp only [← hji10]; first | rfl | (simp [errW_none, errW_some] <;> rfl)) | (simp [*, errW_none, errW_some] <;> rfl), bl_⟩
   have c15b0 : decide ((bt a0_1 x3_1) ≤ (bt a0_1 (ji10))) = false := decide_eq_false c15
   clear c15
   have H' := Aside0.mk H; clear H
   have hcz17_0 := bc0_ BK238
   have hcz17_1 := bc1_ BK238
   have hfz17_0 := blk_frozen BK238.out 0
   have hfz17_1 := blk_frozen BK238.out 1
   go_wp2_with (first | (go_at_call 73; (with_reducible refine (spec_l2Flag.calls (a0_1.extract (x3_1 : Int).toNat ((wrap64 (x3_1 + 1)) : Int).toNat) true _ A7.out).mono ?_); rintro e w' ⟨rfl, ⟨nd, rfl⟩⟩; (try first | exact ⟨rfl, _, World.drewN_drewN _ _ _⟩ | exact ⟨rfl, _, Eq.trans (World.drewN_drewN _ _ _) (congrArg (World.drewN _) (Nat.add_assoc _ _ _))⟩); have p13 : 0 ≤ ((ji10) : Int) := od_; have q13 : (ji10) < (a0_1.size : Int) := od_; have hx13 := bt_at a0_1 (ji10); replace p13 := eq_true p13; replace q13 := eq_true q13; have p14 : 0 ≤ (x3_1 : Int) := od_; have q14 : x3_1 < (a0_1.size : Int) := od_; have hx14 := bt_at a0_1 x3_1; replace p14 := eq_true p14; replace q14 := eq_true q14))
   repeat (go_quiet (first | (go_at_call 73; (with_reducible refine (spec_l2Flag.calls (a0_1.extract (x3_1 : Int).toNat ((wrap64 (x3_1 + 1)) : Int).toNat) true _ A7.out).mono ?_); rintro e w' ⟨rfl, ⟨nd, rfl⟩⟩; (try first | exact ⟨rfl, _, World.drewN_drewN _ _ _⟩ | exact ⟨rfl, _, Eq.trans (World.drewN_drewN _ _ _) (congrArg (World.drewN _) (Nat.add_assoc _ _ _))⟩); have p13 : 0 ≤ ((ji10) : Int) := od_; have q13 : (ji10) < (a0_1.size : Int) := od_; have hx13 := bt_at a0_1 (ji10); replace p13 := eq_true p13; replace q13 := eq_true q13; have p14 : 0 ≤ (x3_1 : Int) := od_; have q14 : x3_1 < (a0_1.size : Int) := od_; have hx14 := bt_at a0_1 x3_1; replace p14 := eq_true p14; replace q14 := eq_true q14)); try go_wp2_with (first | (go_at_call 73; (with_reducible refine (spec_l2Flag.calls (a0_1.extract (x3_1 : Int).toNat ((wrap64 (x3_1 + 1)) : Int).toNat) true _ A7.out).mono ?_); rintro e w' ⟨rfl, ⟨nd, rfl⟩⟩; (try first | exact ⟨rfl, _, World.drewN_drewN _ _ _⟩ | exact ⟨rfl, _, Eq.trans (World.drewN_drewN _ _ _) (congrArg (World.drewN _) (Nat.add_assoc _ _ _))⟩); have p13 : 0 ≤ ((ji10) : Int) := od_; have q13 : (ji10) < (a0_1.size : Int) := od_; have hx13 := bt_at a0_1 (ji10); replace p13 := eq_true p13; replace q13 := eq_true q13; have p14 : 0 ≤ (x3_1 : Int) := od_; have q14 : x3_1 < (a0_1.size : Int) := od_; have hx14 := bt_at a0_1 x3_1; replace p14 := eq_true p14; replace q14 := eq_true q14)))
   go_roundg k1
   case measure => have := HK1.out; omega
   case rel => exact ⟨(wrap64 (x3_1 + 1)), rf_, H', ⟨by have := HK1.out; omega⟩, ⟨by (with_reducible repeat (first | refine blk_drewN ?_ _ | refine blk_drew ?_ | refine blk_alloc ?_ _)); exact BK238.out⟩, ⟨bl_⟩⟩

/-! ### spec_l2Begins: function 85 -/
def spec_l2Begins.f (a0 : ByteArray) (a1 : ByteArray) : Option (Bool) := if (a0.size : Int) ≥ (a1.size : Int) then (if 0 ≤ (a1.size : Int) then (if (a1.size : Int) ≤ (a0.size : Int) then (some ((a0.extract 0 a1.size).toList == a1.toList)) else (none)) else (none)) else (some false)
theorem spec_l2Begins.calls (a0 : ByteArray) (a1 : ByteArray) (r : Bool) (w : World) (h : spec_l2Begins.f a0 a1 = some r) :
 Calls Try.prog 85 #[.string a0, .string a1] w fun e w' => e = .returned (.bool r) ∧ Drawn0 w w' := by
 unfold spec_l2Begins.f at h; have H := h; clear h
 replace H := iucc_ H; rcases H with ⟨c3, H⟩ | ⟨c3, H⟩
 · have c3b0 : decide ((a1.size : Int) ≤ (a0.size : Int)) = false := decide_eq_false c3
   have c3b1 : decide (a1.size ≤ a0.size) = false := decide_eq_false (fun h => c3 (Int.ofNat_le.mpr h))
   clear c3
   obtain rfl := Option.some.inj H
   go_enter Try.func85, Try.ntmps85
   go_wp2
   go_ret
   exact ⟨rf_, dr_⟩
 have c3b0 : decide ((a1.size : Int) ≤ (a0.size : Int)) = true := decide_eq_true c3
 have c3b1 : decide (a1.size ≤ a0.size) = true := decide_eq_true (Int.ofNat_le.mp c3)
 clear c3
 replace H := inc_ H; obtain ⟨c4, H⟩ := H
 have c4b0 := eq_true c4
 have c4b1 : decide (0 ≤ (a1.size : Int)) = true := decide_eq_true c4
 clear c4
 replace H := inc_ H; obtain ⟨c5, H⟩ := H
 have c5b0 := eq_true c5
 have c5b1 : decide ((a1.size : Int) ≤ (a0.size : Int)) = true := decide_eq_true c5
 clear c5
 obtain rfl := Option.some.inj H
 go_enter Try.func85, Try.ntmps85
 go_wp2
 go_ret
 exact ⟨rf_, dr_⟩

/-! ### spec_l2Ends: function 86 -/
def spec_l2Ends.f (a0 : ByteArray) (a1 : ByteArray) : Option (Bool) := if (a0.size : Int) ≥ (a1.size : Int) then (if 0 ≤ (wrap64 ((a0.size : Int) - (a1.size : Int))) then (if (wrap64 ((a0.size : Int) - (a1.size : Int))) ≤ (a0.size : Int) then (some ((a0.extract ((wrap64 ((a0.size : Int) - (a1.size : Int))) : Int).toNat a0.size).toList == a1.toList)) else (none)) else (none)) else (some false)
theorem spec_l2Ends.calls (a0 : ByteArray) (a1 : ByteArray) (r : Bool) (w : World) (h : spec_l2Ends.f a0 a1 = some r) :
 Calls Try.prog 86 #[.string a0, .string a1] w fun e w' => e = .returned (.bool r) ∧ Drawn0 w w' := by
 unfold spec_l2Ends.f at h; have H := h; clear h
 replace H := iucc_ H; rcases H with ⟨c3, H⟩ | ⟨c3, H⟩
 · have c3b0 : decide ((a1.size : Int) ≤ (a0.size : Int)) = false := decide_eq_false c3
   have c3b1 : decide (a1.size ≤ a0.size) = false := decide_eq_false (fun h => c3 (Int.ofNat_le.mpr h))
   clear c3
   obtain rfl := Option.some.inj H
   go_enter Try.func86, Try.ntmps86
   go_wp2
   go_ret
   exact ⟨rf_, dr_⟩
 have c3b0 : decide ((a1.size : Int) ≤ (a0.size : Int)) = true := decide_eq_true c3
 have c3b1 : decide (a1.size ≤ a0.size) = true := decide_eq_true (Int.ofNat_le.mp c3)
 clear c3
 obtain ⟨ji4, hji4⟩ : ∃ j_ : Int, (wrap64 ((a0.size : Int) - (a1.size : Int))) = j_ := ⟨_, rfl⟩
 replace H : (if 0 ≤ (ji4) then (if (ji4) ≤ (a0.size : Int) then (some ((a0.extract ((ji4) : Int).toNat a0.size).toList == a1.toList)) else (none)) else (none)) = some r := by first | (rw [hji4] at H; exact H) | (simp only [hji4] at H ⊢; exact H)
 have hji4w : (IntKind.i64.wrap ((a0.size : Int) - (a1.size : Int))) = ji4 := (i64_w _).trans hji4
 replace H := inc_ H; obtain ⟨c5, H⟩ := H
 have c5b0 := eq_true c5
 have c5b1 : decide (0 ≤ (ji4)) = true := decide_eq_true c5
 clear c5
 replace H := inc_ H; obtain ⟨c6, H⟩ := H
 have c6b0 := eq_true c6
 have c6b1 : decide ((ji4) ≤ (a0.size : Int)) = true := decide_eq_true c6
 clear c6
 obtain rfl := Option.some.inj H
 go_enter Try.func86, Try.ntmps86
 go_wp2
 go_ret
 exact ⟨by first | rfl | (simp; done) | (simp only [← hji4] <;> (first | rfl | simp)) | (simp [*]; done), dr_⟩

/-! ### spec_AffixOk: function 74 -/
def spec_AffixOk.j0 : Nat → Bool → ByteArray → Bool → ByteArray → ByteArray → ByteArray → Option (Bool)
 | 0, _, _, _, _, _, _ => none
 | k + 1, x24, x242000, x242001, x242002, x242003, x242004 => if x24 = true then (some false) else (if x242001 = true then ((spec_l2Begins.f x242004 x242002).bind fun t246 => (some t246)) else ((spec_l2Ends.f x242004 x242002).bind fun t247 => (some t247)))
def spec_AffixOk.f (k : Nat) (a0_0 : ByteArray) (a0_1 : Bool) (a0_2 : ByteArray) (a0_3 : ByteArray) (a0_4 : ByteArray) : Option (Bool) := (spec_l2Flag.f a0_0).bind fun t242 => (if t242 = true then ((spec_l1Letters.f k a0_2 4).bind fun t243 => (if t243 = true then ((spec_l1Letters.f k a0_3 4).bind fun t244 => (if t244 = true then ((spec_l1Letters.f k a0_4 4).bind fun t245 => (spec_AffixOk.j0 k (!t245) a0_0 a0_1 a0_2 a0_3 a0_4)) else (spec_AffixOk.j0 k true a0_0 a0_1 a0_2 a0_3 a0_4))) else (spec_AffixOk.j0 k true a0_0 a0_1 a0_2 a0_3 a0_4))) else (spec_AffixOk.j0 k true a0_0 a0_1 a0_2 a0_3 a0_4))
theorem spec_AffixOk.mono_l : ∀ k, (∀ y0 y1 y2 y3 y4 y5, LeO (spec_AffixOk.j0 k y0 y1 y2 y3 y4 y5) (spec_AffixOk.j0 (k + 1) y0 y1 y2 y3 y4 y5))
 | 0 => fun _ _ _ _ _ _ r h => by simp [spec_AffixOk.j0] at h
 | k + 1 => by
  have ih0 := spec_AffixOk.mono_l k
  · intro y0 y1 y2 y3 y4 y5
    unfold spec_AffixOk.j0
    have m0 := @spec_l1Letters.mono
    exact mn_
theorem spec_AffixOk.mono : ∀ a0 a1 a2 a3 a4 k, LeO (spec_AffixOk.f k a0 a1 a2 a3 a4) (spec_AffixOk.f (k + 1) a0 a1 a2 a3 a4) := by
 intro a0 a1 a2 a3 a4 k
 have ih0 := spec_AffixOk.mono_l k
 unfold spec_AffixOk.f
 have m0 := @spec_l1Letters.mono
 exact mn_
theorem spec_AffixOk.calls (k : Nat) (a0_0 : ByteArray) (a0_1 : Bool) (a0_2 : ByteArray) (a0_3 : ByteArray) (a0_4 : ByteArray) (r : Bool) (w : World) (h : spec_AffixOk.f k a0_0 a0_1 a0_2 a0_3 a0_4 = some r) :
 Calls Try.prog 74 #[.agg #[.string a0_0, .bool a0_1, .string a0_2, .string a0_3, .string a0_4]] w fun e w' => e = .returned (.bool r) ∧ Below w.heap.size w w' := by
 have hu68 := Try.underlying68
 have HB := Aside0.mk (Below.refl w.heap.size w)
 unfold spec_AffixOk.f at h; have H := h; clear h
 have HC2 := Aside0.mk H
 clear H
 go_enter Try.func74, Try.ntmps74
 go_upto_region 1 with (first | ((with_reducible refine gate_dst (N := 1) rfl ?_); refine be_ 1 68 #[.string a0_0, .bool a0_1, .string a0_2, .string a0_3, .string a0_4] ?_; intro gb241 hg w3 hbox hb; have BK241 := Aside0.mk (hbox); have GW241 := Aside0.mk ((gs_ hg : w.heap.size ≤ gb241)); have GE241 := Aside0.mk ((gs_ hg : w.heap.size ≤ gb241)); replace HB := Aside0.mk (below_step (bl_) hb); clear hb hbox hg))
 (try simp only [Act.put, List.setIfInBounds_toArray, List.set_cons_zero, List.set_cons_succ])
 go_cut [24] (fun v24 wc => ∃ (kq : Nat) (x24_1 : Bool), v24 = .bool x24_1 ∧ Aside0 (spec_AffixOk.j0 kq x24_1 a0_0 a0_1 a0_2 a0_3 a0_4 = some r) ∧ Aside0 (kq ≤ k) ∧ Aside0 (wc.heap[gb241]? = some (.cells #[.string a0_0, .bool a0_1, .string a0_2, .string a0_3, .string a0_4] 68 (0, 0))) ∧ Aside0 (Below w.heap.size w wc))
 case first =>
  have H := HC2.out
  clear HC2
  replace H := Option.bind_eq_some_iff.mp H
  obtain ⟨t242, A40, H⟩ := H; try dsimp only at H
  have A4 := Aside0.mk A40
  clear A40
  replace H := iub_ H; rcases H with ⟨rfl, H⟩ | ⟨rfl, H⟩
  · have H' := Aside0.mk H
    clear H
    have hcz14_0 := bc0_ BK241
    have hcz14_1 := bc1_ BK241
    have hcz14_2 := bc2_ BK241
    have hcz14_3 := bc3_ BK241
    have hcz14_4 := bc4_ BK241
    have hfz14_0 := blk_frozen BK241.out 0
    have hfz14_1 := blk_frozen BK241.out 1
    have hfz14_2 := blk_frozen BK241.out 2
    have hfz14_3 := blk_frozen BK241.out 3
    have hfz14_4 := blk_frozen BK241.out 4
    go_wp2_with (first | ((with_reducible refine gate_callee (f := 73) rfl ?_); refine gl_ 5 Try.func73 #[.string a0_0] ?_; (with_reducible refine (spec_l2Flag.calls a0_0 false _ A4.out).mono ?_); rintro e w' ⟨rfl, ⟨nd, rfl⟩⟩; refine ⟨_, rfl, ?_⟩))
    go_meet
    case rel => exact ⟨_, (true), rf_, H', ⟨by first | omega | exact Nat.le_refl _⟩, ⟨by (with_reducible repeat (first | refine blk_drewN ?_ _ | refine blk_drew ?_ | refine blk_alloc ?_ _)); exact BK241.out⟩, ⟨bl_⟩⟩
  replace H := Option.bind_eq_some_iff.mp H
  obtain ⟨t243, A60, H⟩ := H; try dsimp only at H
  have A6 := Aside0.mk A60
  clear A60
  replace H := iub_ H; rcases H with ⟨rfl, H⟩ | ⟨rfl, H⟩
  · have H' := Aside0.mk H
    clear H
    have hcz13_0 := bc0_ BK241
    have hcz13_1 := bc1_ BK241
    have hcz13_2 := bc2_ BK241
    have hcz13_3 := bc3_ BK241
    have hcz13_4 := bc4_ BK241
    have hfz13_0 := blk_frozen BK241.out 0
    have hfz13_1 := blk_frozen BK241.out 1
    have hfz13_2 := blk_frozen BK241.out 2
    have hfz13_3 := blk_frozen BK241.out 3
    have hfz13_4 := blk_frozen BK241.out 4
    go_wp2_with (first | ((with_reducible refine gate_callee (f := 73) rfl ?_); refine gl_ 5 Try.func73 #[.string a0_0] ?_; (with_reducible refine (spec_l2Flag.calls a0_0 true _ A4.out).mono ?_); rintro e w' ⟨rfl, ⟨nd, rfl⟩⟩; refine ⟨_, rfl, ?_⟩) | (go_at_call 51; (with_reducible refine (spec_l1Letters.calls k a0_2 4 false _ A6.out).mono ?_); rintro e w' ⟨rfl, ⟨nd, rfl⟩⟩))
    go_meet
    case rel => exact ⟨_, (true), rf_, H', ⟨by first | omega | exact Nat.le_refl _⟩, ⟨by (with_reducible repeat (first | refine blk_drewN ?_ _ | refine blk_drew ?_ | refine blk_alloc ?_ _)); exact BK241.out⟩, ⟨bl_⟩⟩
  replace H := Option.bind_eq_some_iff.mp H
  obtain ⟨t244, A80, H⟩ := H; try dsimp only at H
  have A8 := Aside0.mk A80
  clear A80
  replace H := iub_ H; rcases H with ⟨rfl, H⟩ | ⟨rfl, H⟩
  · have H' := Aside0.mk H
    clear H
    have hcz12_0 := bc0_ BK241
    have hcz12_1 := bc1_ BK241
    have hcz12_2 := bc2_ BK241
    have hcz12_3 := bc3_ BK241
    have hcz12_4 := bc4_ BK241
    have hfz12_0 := blk_frozen BK241.out 0
    have hfz12_1 := blk_frozen BK241.out 1
    have hfz12_2 := blk_frozen BK241.out 2
    have hfz12_3 := blk_frozen BK241.out 3
    have hfz12_4 := blk_frozen BK241.out 4
    go_wp2_with (first | ((with_reducible refine gate_callee (f := 73) rfl ?_); refine gl_ 5 Try.func73 #[.string a0_0] ?_; (with_reducible refine (spec_l2Flag.calls a0_0 true _ A4.out).mono ?_); rintro e w' ⟨rfl, ⟨nd, rfl⟩⟩; refine ⟨_, rfl, ?_⟩) | (go_at_call 51; (with_reducible refine (spec_l1Letters.calls k a0_2 4 true _ A6.out).mono ?_); rintro e w' ⟨rfl, ⟨nd, rfl⟩⟩) | (go_at_call 51; (with_reducible refine (spec_l1Letters.calls k a0_3 4 false _ A8.out).mono ?_); rintro e w' ⟨rfl, ⟨nd, rfl⟩⟩))
    go_meet
    case rel => exact ⟨_, (true), rf_, H', ⟨by first | omega | exact Nat.le_refl _⟩, ⟨by (with_reducible repeat (first | refine blk_drewN ?_ _ | refine blk_drew ?_ | refine blk_alloc ?_ _)); exact BK241.out⟩, ⟨bl_⟩⟩
  replace H := Option.bind_eq_some_iff.mp H
  obtain ⟨t245, A100, H⟩ := H; try dsimp only at H
  have A10 := Aside0.mk A100
  clear A100
  have H' := Aside0.mk H; clear H
  have hcz11_0 := bc0_ BK241
  have hcz11_1 := bc1_ BK241
  have hcz11_2 := bc2_ BK241
  have hcz11_3 := bc3_ BK241
  have hcz11_4 := bc4_ BK241
  have hfz11_0 := blk_frozen BK241.out 0
  have hfz11_1 := blk_frozen BK241.out 1
  have hfz11_2 := blk_frozen BK241.out 2
  have hfz11_3 := blk_frozen BK241.out 3
  have hfz11_4 := blk_frozen BK241.out 4
  go_wp2_with (first | ((with_reducible refine gate_callee (f := 73) rfl ?_); refine gl_ 5 Try.func73 #[.string a0_0] ?_; (with_reducible refine (spec_l2Flag.calls a0_0 true _ A4.out).mono ?_); rintro e w' ⟨rfl, ⟨nd, rfl⟩⟩; refine ⟨_, rfl, ?_⟩) | (go_at_call 51; (with_reducible refine (spec_l1Letters.calls k a0_2 4 true _ A6.out).mono ?_); rintro e w' ⟨rfl, ⟨nd, rfl⟩⟩) | (go_at_call 51; (with_reducible refine (spec_l1Letters.calls k a0_3 4 true _ A8.out).mono ?_); rintro e w' ⟨rfl, ⟨nd, rfl⟩⟩) | (go_at_call 51; (with_reducible refine (spec_l1Letters.calls k a0_4 4 t245 _ A10.out).mono ?_); rintro e w' ⟨rfl, ⟨nd, rfl⟩⟩))
  go_meet
  case rel => exact ⟨_, (!t245), rf_, H', ⟨by first | omega | exact Nat.le_refl _⟩, ⟨by (with_reducible repeat (first | refine blk_drewN ?_ _ | refine blk_drew ?_ | refine blk_alloc ?_ _)); exact BK241.out⟩, ⟨bl_⟩⟩
 case rest =>
  clear HC2
  (try clear p2);(try clear c5);(try clear c7);(try clear c9);(try clear hcz11_0);(try clear hcz11_1);(try clear hcz11_2);(try clear hcz11_3);(try clear hcz11_4);(try clear hcz12_0);(try clear hcz12_1);(try clear hcz12_2);(try clear hcz12_3);(try clear hcz12_4);(try clear hcz13_0);(try clear hcz13_1);(try clear hcz13_2);(try clear hcz13_3);(try clear hcz13_4);(try clear hcz14_0);(try clear hcz14_1);(try clear hcz14_2);(try clear hcz14_3);(try clear hcz14_4);(try clear hfz11_0);(try clear hfz11_1);(try clear hfz11_2);(try clear hfz11_3);(try clear hfz11_4);(try clear hfz12_0);(try clear hfz12_1);(try clear hfz12_2);(try clear hfz12_3);(try clear hfz12_4);(try clear hfz13_0);(try clear hfz13_1);(try clear hfz13_2);(try clear hfz13_3);(try clear hfz13_4);(try clear hfz14_0);(try clear hfz14_1);(try clear hfz14_2);(try clear hfz14_3);(try clear hfz14_4)
  obtain ⟨kq, x24_1, rfl, HA, HJ1, BK241, HB⟩ := hcut
  cases kq with
  | zero => exact absurd HA.out (by simp [spec_AffixOk.j0])
  | succ kj1 =>
   have H := HA.out
   clear HA
   simp only [spec_AffixOk.j0] at H
   replace H := itb_ H; rcases H with ⟨rfl, H⟩ | ⟨rfl, H⟩
   · obtain rfl := Option.some.inj H
     go_wp2
     go_ret
     exact ⟨rfe_, bl_⟩
   by_cases c16 : a0_1 = true
   · subst c16
     have H1 : ((spec_l2Begins.f a0_4 a0_2).bind fun t246 => (some t246)) = some r := by rw [if_pos rfl] at H; exact H
     clear H
     have H := H1
     clear H1
     replace H := Option.bind_eq_some_iff.mp H
     obtain ⟨t246, A170, H⟩ := H; try dsimp only at H
     have A17 := Aside0.mk A170
     clear A170
     obtain rfl := Option.some.inj H
     have hcz18_0 := bc0_ BK241
     have hcz18_1 := bc1_ BK241
     have hcz18_2 := bc2_ BK241
     have hcz18_3 := bc3_ BK241
     have hcz18_4 := bc4_ BK241
     have hfz18_0 := blk_frozen BK241.out 0
     have hfz18_1 := blk_frozen BK241.out 1
     have hfz18_2 := blk_frozen BK241.out 2
     have hfz18_3 := blk_frozen BK241.out 3
     have hfz18_4 := blk_frozen BK241.out 4
     go_wp2_with (first | ((with_reducible refine gate_callee (f := 85) rfl ?_); refine gl_ 31 Try.func85 #[.string a0_4, .string a0_2] ?_; (with_reducible refine (spec_l2Begins.calls a0_4 a0_2 t246 _ A17.out).mono ?_); rintro e w' ⟨rfl, ⟨nd, rfl⟩⟩; refine ⟨_, rfl, ?_⟩))
     go_ret
     exact ⟨rfe_, bl_⟩
   · replace c16 := Bool.eq_false_iff.mpr c16
     subst c16
     have H1 : ((spec_l2Ends.f a0_4 a0_2).bind fun t247 => (some t247)) = some r := by rw [if_neg (show ¬ (false = true) by decide)] at H; exact H
     clear H
     have H := H1
     clear H1
     replace H := Option.bind_eq_some_iff.mp H
     obtain ⟨t247, A190, H⟩ := H; try dsimp only at H
     have A19 := Aside0.mk A190
     clear A190
     obtain rfl := Option.some.inj H
     have hcz20_0 := bc0_ BK241
     have hcz20_1 := bc1_ BK241
     have hcz20_2 := bc2_ BK241
     have hcz20_3 := bc3_ BK241
     have hcz20_4 := bc4_ BK241
     have hfz20_0 := blk_frozen BK241.out 0
     have hfz20_1 := blk_frozen BK241.out 1
     have hfz20_2 := blk_frozen BK241.out 2
     have hfz20_3 := blk_frozen BK241.out 3
     have hfz20_4 := blk_frozen BK241.out 4
     go_wp2_with (first | ((with_reducible refine gate_callee (f := 86) rfl ?_); refine gl_ 36 Try.func86 #[.string a0_4, .string a0_2] ?_; (with_reducible refine (spec_l2Ends.calls a0_4 a0_2 t247 _ A19.out).mono ?_); rintro e w' ⟨rfl, ⟨nd, rfl⟩⟩; refine ⟨_, rfl, ?_⟩))
     go_ret
     exact ⟨rfe_, bl_⟩

end Go.Proofs.Ytbopiacjioedeaa.P
