-- Written by a program of this session (wip/gen/gen.py) out of Lean's print of the loaded program; Lean checks it.
import Derived.Test.YtbopiacjioedeaaP0
import Derived.Test.YtbopiacjioedeaaSq2
import Derived.Test.YtbopiacjioedeaaP7
namespace Go.Proofs.Ytbopiacjioedeaa.P
open Go.RowKit Go.Proofs.YtbopiacjioedeaaW.PrintWords Go.Proofs.YtbopiacjioedeaaW.PrintLast Go.Proofs.YtbopiacjioedeaaW.PrintMore
attribute [local go_sem] max2_int min2_int max_two min_two max_three min_three max_four min_four IntKind.wrap_u8 IntKind.wrap_u32 w64_256 w64_u32
set_option maxHeartbeats 8000000
set_option maxRecDepth 100000
set_option linter.unusedVariables false
set_option linter.unusedSimpArgs false

/-! ### spec_l2Has: function 87 -/
def spec_l2Has.l0 : Nat → ByteArray → ByteArray → Int → Option (Bool)
 | 0, _, _, _ => none
 | k + 1, x0, x1, x5 => if x5 < (x0.size : Int) then (if 0 ≤ x5 then (if x5 ≤ (wrap64 (x5 + 1)) then (if (wrap64 (x5 + 1)) ≤ (x0.size : Int) then (if (x0.extract (x5 : Int).toNat ((wrap64 (x5 + 1)) : Int).toNat).toList = x1.toList then (some true) else (spec_l2Has.l0 k x0 x1 (wrap64 (x5 + 1)))) else (none)) else (none)) else (none)) else (some false)
def spec_l2Has.f (k : Nat) (a0 : ByteArray) (a1 : ByteArray) : Option (Bool) := spec_l2Has.l0 k a0 a1 0
theorem spec_l2Has.mono_l : ∀ k, (∀ y0 y1 y2, LeO (spec_l2Has.l0 k y0 y1 y2) (spec_l2Has.l0 (k + 1) y0 y1 y2))
 | 0 => fun _ _ _ r h => by simp [spec_l2Has.l0] at h
 | k + 1 => by
  have ih0 := spec_l2Has.mono_l k
  · intro y0 y1 y2
    unfold spec_l2Has.l0
    exact mn_
theorem spec_l2Has.mono : ∀ a0 a1 k, LeO (spec_l2Has.f k a0 a1) (spec_l2Has.f (k + 1) a0 a1) := by
 intro a0 a1 k
 have ih0 := spec_l2Has.mono_l k
 unfold spec_l2Has.f
 exact mn_
theorem spec_l2Has.calls (k : Nat) (a0 : ByteArray) (a1 : ByteArray) (r : Bool) (w : World) (h : spec_l2Has.f k a0 a1 = some r) :
 Calls Try.prog 87 #[.string a0, .string a1] w fun e w' => e = .returned (.bool r) ∧ Drawn0 w w' := by
 unfold spec_l2Has.f at h; have H := h; clear h
 have H' := Aside0.mk H; clear H
 go_enter Try.func87, Try.ntmps87
 go_wp2
 go_loopg [5] k (fun kq v5 w' => ∃ (x5_1 : Int), v5 = .int .i64 x5_1 ∧ Aside0 (spec_l2Has.l0 kq a0 a1 x5_1 = some r) ∧ Aside0 (kq ≤ k) ∧ Drawn0 w w')
 case atStart => exact ⟨(0), rf_, H', ⟨Nat.le_refl _⟩, dr_⟩
 case round =>
  clear H'
  try clear p2
  obtain ⟨x5_1, rfl, HA, HK1, ⟨m1, rfl⟩⟩ := hrel
  cases gk with
  | zero => exact absurd HA.out (by simp [spec_l2Has.l0])
  | succ k1 =>
   have H := HA.out
   clear HA
   simp only [spec_l2Has.l0] at H
   replace H := iudd_ H; rcases H with ⟨c3b0, H⟩ | ⟨c3b0, H⟩
   · obtain rfl := Option.some.inj H
     go_wp2
     go_ret
     exact ⟨rf_, dr_⟩
   replace H := inc_ H; obtain ⟨c4, H⟩ := H
   have c4b0 := eq_true c4
   have c4b1 : decide (0 ≤ x5_1) = true := decide_eq_true c4
   clear c4
   replace H := inc_ H; obtain ⟨c5, H⟩ := H
   have c5b0 := eq_true c5
   have c5b1 : decide (x5_1 ≤ (wrap64 (x5_1 + 1))) = true := decide_eq_true c5
   replace H := inc_ H; obtain ⟨c6, H⟩ := H
   have c6b0 := eq_true c6
   have c6b1 : decide ((wrap64 (x5_1 + 1)) ≤ (a0.size : Int)) = true := decide_eq_true c6
   replace H := itcc_ H; rcases H with ⟨c7, H⟩ | ⟨c7, H⟩
   · have c7b0 : ((a0.extract (x5_1 : Int).toNat ((wrap64 (x5_1 + 1)) : Int).toNat).toList == a1.toList) = true := beq_iff_eq.mpr c7
     have c7b1 : ((a0.extract (x5_1 : Int).toNat ((wrap64 (x5_1 + 1)) : Int).toNat).toList != a1.toList) = false := bne_eq_false_iff_eq.mpr c7
     clear c7
     obtain rfl := Option.some.inj H
     go_wp2
     go_ret
     exact ⟨rf_, dr_⟩
   have c7b0 : ((a0.extract (x5_1 : Int).toNat ((wrap64 (x5_1 + 1)) : Int).toNat).toList == a1.toList) = false := beq_eq_false_iff_ne.mpr c7
   have c7b1 : ((a0.extract (x5_1 : Int).toNat ((wrap64 (x5_1 + 1)) : Int).toNat).toList != a1.toList) = true := bne_iff_ne.mpr c7
   have H' := Aside0.mk H; clear H
   go_wp2
   go_roundg k1
   case measure => have := HK1.out; omega
   case rel => exact ⟨(wrap64 (x5_1 + 1)), rf_, H', ⟨by have := HK1.out; omega⟩, dr_⟩

/-! ### spec_l2Do: function 88 -/
def spec_l2Do.f (k : Nat) (a0_0 : ByteArray) (a0_1 : Bool) (a0_2 : ByteArray) (a0_3 : ByteArray) (a0_4 : ByteArray) (a1 : ByteArray) : Option (ByteArray × Bool) := if a0_1 = true then ((spec_l2Begins.f a1 a0_4).bind fun t291 => (if t291 = true then (if 0 ≤ (a0_2.size : Int) then (if (a0_2.size : Int) ≤ (a1.size : Int) then (if a0_3.size + (a1.size - a0_2.size) ≤ 9223372036854775807 then ((spec_l1Word.f k (a0_3 ++ (a1.extract a0_2.size a1.size))).bind fun t292 => (some (a0_3 ++ (a1.extract a0_2.size a1.size), t292))) else (none)) else (none)) else (none)) else (some ((⟨#[]⟩ : ByteArray), false)))) else ((spec_l2Ends.f a1 a0_4).bind fun t293 => (if t293 = true then (if 0 ≤ (wrap64 ((a1.size : Int) - (a0_2.size : Int))) then (if (wrap64 ((a1.size : Int) - (a0_2.size : Int))) ≤ (a1.size : Int) then (if ((wrap64 ((a1.size : Int) - (a0_2.size : Int))) : Int).toNat + a0_3.size ≤ 9223372036854775807 then ((spec_l1Word.f k ((a1.extract 0 ((wrap64 ((a1.size : Int) - (a0_2.size : Int))) : Int).toNat) ++ a0_3)).bind fun t294 => (some ((a1.extract 0 ((wrap64 ((a1.size : Int) - (a0_2.size : Int))) : Int).toNat) ++ a0_3, t294))) else (none)) else (none)) else (none)) else (some ((⟨#[]⟩ : ByteArray), false))))
theorem spec_l2Do.mono : ∀ a0 a1 a2 a3 a4 a5 k, LeO (spec_l2Do.f k a0 a1 a2 a3 a4 a5) (spec_l2Do.f (k + 1) a0 a1 a2 a3 a4 a5) := by
 intro a0 a1 a2 a3 a4 a5 k
 unfold spec_l2Do.f
 have m0 := @spec_l1Word.mono
 exact mn_
theorem spec_l2Do.calls (k : Nat) (a0_0 : ByteArray) (a0_1 : Bool) (a0_2 : ByteArray) (a0_3 : ByteArray) (a0_4 : ByteArray) (a1 : ByteArray) (r1 : ByteArray) (r2 : Bool) (w : World) (h : spec_l2Do.f k a0_0 a0_1 a0_2 a0_3 a0_4 a1 = some (r1, r2)) :
 Calls Try.prog 88 #[.agg #[.string a0_0, .bool a0_1, .string a0_2, .string a0_3, .string a0_4], .string a1] w fun e w' => e = .returned (.tuple #[.string r1, .bool r2]) ∧ Below w.heap.size w w' := by
 have hu68 := Try.underlying68
 have HB := Aside0.mk (Below.refl w.heap.size w)
 unfold spec_l2Do.f at h; have H := h; clear h
 by_cases c3 : a0_1 = true
 · subst c3
   have H1 : ((spec_l2Begins.f a1 a0_4).bind fun t291 => (if t291 = true then (if 0 ≤ (a0_2.size : Int) then (if (a0_2.size : Int) ≤ (a1.size : Int) then (if a0_3.size + (a1.size - a0_2.size) ≤ 9223372036854775807 then ((spec_l1Word.f k (a0_3 ++ (a1.extract a0_2.size a1.size))).bind fun t292 => (some (a0_3 ++ (a1.extract a0_2.size a1.size), t292))) else (none)) else (none)) else (none)) else (some ((⟨#[]⟩ : ByteArray), false)))) = some (r1, r2) := by rw [if_pos rfl] at H; exact H
   clear H
   have H := H1
   clear H1
   replace H := Option.bind_eq_some_iff.mp H
   obtain ⟨t291, A40, H⟩ := H; try dsimp only at H
   have A4 := Aside0.mk A40
   clear A40
   replace H := iub_ H; rcases H with ⟨rfl, H⟩ | ⟨rfl, H⟩
   · simp only [Option.some.injEq, Prod.mk.injEq] at H
     obtain ⟨rfl, rfl⟩ := H
     go_enter Try.func88, Try.ntmps88
     go_wp2_with (first | ((with_reducible refine gate_dst (N := 2) rfl ?_); refine be_ 2 68 #[.string a0_0, .bool true, .string a0_2, .string a0_3, .string a0_4] ?_; intro gb290 hg w12 hbox hb; have BK290 := Aside0.mk (hbox); have GW290 := Aside0.mk ((gs_ hg : w.heap.size ≤ gb290)); have GE290 := Aside0.mk ((gs_ hg : w.heap.size ≤ gb290)); replace HB := Aside0.mk (below_step (bl_) hb); clear hb hbox hg; have hcz13_0 := bc0_ BK290; have hcz13_1 := bc1_ BK290; have hcz13_2 := bc2_ BK290; have hcz13_3 := bc3_ BK290; have hcz13_4 := bc4_ BK290; have hfz13_0 := blk_frozen BK290.out 0; have hfz13_1 := blk_frozen BK290.out 1; have hfz13_2 := blk_frozen BK290.out 2; have hfz13_3 := blk_frozen BK290.out 3; have hfz13_4 := blk_frozen BK290.out 4) | (go_at_call 85; (with_reducible refine (spec_l2Begins.calls a1 a0_4 false _ A4.out).mono ?_); rintro e w' ⟨rfl, ⟨nd, rfl⟩⟩; (try first | exact ⟨rfl, _, World.drewN_drewN _ _ _⟩ | exact ⟨rfl, _, Eq.trans (World.drewN_drewN _ _ _) (congrArg (World.drewN _) (Nat.add_assoc _ _ _))⟩)))
     repeat (go_quiet (first | ((with_reducible refine gate_dst (N := 2) rfl ?_); refine be_ 2 68 #[.string a0_0, .bool true, .string a0_2, .string a0_3, .string a0_4] ?_; intro gb290 hg w12 hbox hb; have BK290 := Aside0.mk (hbox); have GW290 := Aside0.mk ((gs_ hg : w.heap.size ≤ gb290)); have GE290 := Aside0.mk ((gs_ hg : w.heap.size ≤ gb290)); replace HB := Aside0.mk (below_step (bl_) hb); clear hb hbox hg; have hcz13_0 := bc0_ BK290; have hcz13_1 := bc1_ BK290; have hcz13_2 := bc2_ BK290; have hcz13_3 := bc3_ BK290; have hcz13_4 := bc4_ BK290; have hfz13_0 := blk_frozen BK290.out 0; have hfz13_1 := blk_frozen BK290.out 1; have hfz13_2 := blk_frozen BK290.out 2; have hfz13_3 := blk_frozen BK290.out 3; have hfz13_4 := blk_frozen BK290.out 4) | (go_at_call 85; (with_reducible refine (spec_l2Begins.calls a1 a0_4 false _ A4.out).mono ?_); rintro e w' ⟨rfl, ⟨nd, rfl⟩⟩; (try first | exact ⟨rfl, _, World.drewN_drewN _ _ _⟩ | exact ⟨rfl, _, Eq.trans (World.drewN_drewN _ _ _) (congrArg (World.drewN _) (Nat.add_assoc _ _ _))⟩))); try go_wp2_with (first | ((with_reducible refine gate_dst (N := 2) rfl ?_); refine be_ 2 68 #[.string a0_0, .bool true, .string a0_2, .string a0_3, .string a0_4] ?_; intro gb290 hg w12 hbox hb; have BK290 := Aside0.mk (hbox); have GW290 := Aside0.mk ((gs_ hg : w.heap.size ≤ gb290)); have GE290 := Aside0.mk ((gs_ hg : w.heap.size ≤ gb290)); replace HB := Aside0.mk (below_step (bl_) hb); clear hb hbox hg; have hcz13_0 := bc0_ BK290; have hcz13_1 := bc1_ BK290; have hcz13_2 := bc2_ BK290; have hcz13_3 := bc3_ BK290; have hcz13_4 := bc4_ BK290; have hfz13_0 := blk_frozen BK290.out 0; have hfz13_1 := blk_frozen BK290.out 1; have hfz13_2 := blk_frozen BK290.out 2; have hfz13_3 := blk_frozen BK290.out 3; have hfz13_4 := blk_frozen BK290.out 4) | (go_at_call 85; (with_reducible refine (spec_l2Begins.calls a1 a0_4 false _ A4.out).mono ?_); rintro e w' ⟨rfl, ⟨nd, rfl⟩⟩; (try first | exact ⟨rfl, _, World.drewN_drewN _ _ _⟩ | exact ⟨rfl, _, Eq.trans (World.drewN_drewN _ _ _) (congrArg (World.drewN _) (Nat.add_assoc _ _ _))⟩))))
     go_ret2
     exact ⟨rfe_, bl_⟩
   replace H := inc_ H; obtain ⟨c6, H⟩ := H
   have c6b0 := eq_true c6
   have c6b1 : decide (0 ≤ (a0_2.size : Int)) = true := decide_eq_true c6
   clear c6
   replace H := inc_ H; obtain ⟨c7, H⟩ := H
   have c7b0 := eq_true c7
   have c7b1 : decide ((a0_2.size : Int) ≤ (a1.size : Int)) = true := decide_eq_true c7
   clear c7
   replace H := inc_ H; obtain ⟨c8, H⟩ := H
   have c8b0 := eq_true c8
   have c8b1 : decide (a0_3.size + (a1.size - a0_2.size) ≤ 9223372036854775807) = true := decide_eq_true c8
   try have c8b2 : (9223372036854775807 < a0_3.size + (a1.size - a0_2.size)) = False := eq_false (Nat.not_lt.2 c8)
   replace H := Option.bind_eq_some_iff.mp H
   obtain ⟨t292, A90, H⟩ := H; try dsimp only at H
   have A9 := Aside0.mk A90
   clear A90
   simp only [Option.some.injEq, Prod.mk.injEq] at H
   obtain ⟨rfl, rfl⟩ := H
   go_enter Try.func88, Try.ntmps88
   go_wp2_with (first | ((with_reducible refine gate_dst (N := 2) rfl ?_); refine be_ 2 68 #[.string a0_0, .bool true, .string a0_2, .string a0_3, .string a0_4] ?_; intro gb290 hg w10 hbox hb; have BK290 := Aside0.mk (hbox); have GW290 := Aside0.mk ((gs_ hg : w.heap.size ≤ gb290)); have GE290 := Aside0.mk ((gs_ hg : w.heap.size ≤ gb290)); replace HB := Aside0.mk (below_step (bl_) hb); clear hb hbox hg; have hcz11_0 := bc0_ BK290; have hcz11_1 := bc1_ BK290; have hcz11_2 := bc2_ BK290; have hcz11_3 := bc3_ BK290; have hcz11_4 := bc4_ BK290; have hfz11_0 := blk_frozen BK290.out 0; have hfz11_1 := blk_frozen BK290.out 1; have hfz11_2 := blk_frozen BK290.out 2; have hfz11_3 := blk_frozen BK290.out 3; have hfz11_4 := blk_frozen BK290.out 4) | (go_at_call 85; (with_reducible refine (spec_l2Begins.calls a1 a0_4 true _ A4.out).mono ?_); rintro e w' ⟨rfl, ⟨nd, rfl⟩⟩; (try first | exact ⟨rfl, _, World.drewN_drewN _ _ _⟩ | exact ⟨rfl, _, Eq.trans (World.drewN_drewN _ _ _) (congrArg (World.drewN _) (Nat.add_assoc _ _ _))⟩)) | (go_at_call 26; (with_reducible refine (spec_l1Word.calls k (a0_3 ++ (a1.extract a0_2.size a1.size)) t292 _ A9.out).mono ?_); rintro e w' ⟨rfl, ⟨nd, rfl⟩⟩; (try first | exact ⟨rfl, _, World.drewN_drewN _ _ _⟩ | exact ⟨rfl, _, Eq.trans (World.drewN_drewN _ _ _) (congrArg (World.drewN _) (Nat.add_assoc _ _ _))⟩)))
   repeat (go_quiet (first | ((with_reducible refine gate_dst (N := 2) rfl ?_); refine be_ 2 68 #[.string a0_0, .bool true, .string a0_2, .string a0_3, .string a0_4] ?_; intro gb290 hg w10 hbox hb; have BK290 := Aside0.mk (hbox); have GW290 := Aside0.mk ((gs_ hg : w.heap.size ≤ gb290)); have GE290 := Aside0.mk ((gs_ hg : w.heap.size ≤ gb290)); replace HB := Aside0.mk (below_step (bl_) hb); clear hb hbox hg; have hcz11_0 := bc0_ BK290; have hcz11_1 := bc1_ BK290; have hcz11_2 := bc2_ BK290; have hcz11_3 := bc3_ BK290; have hcz11_4 := bc4_ BK290; have hfz11_0 := blk_frozen BK290.out 0; have hfz11_1 := blk_frozen BK290.out 1; have hfz11_2 := blk_frozen BK290.out 2; have hfz11_3 := blk_frozen BK290.out 3; have hfz11_4 := blk_frozen BK290.out 4) | (go_at_call 85; (with_reducible refine (spec_l2Begins.calls a1 a0_4 true _ A4.out).mono ?_); rintro e w' ⟨rfl, ⟨nd, rfl⟩⟩; (try first | exact ⟨rfl, _, World.drewN_drewN _ _ _⟩ | exact ⟨rfl, _, Eq.trans (World.drewN_drewN _ _ _) (congrArg (World.drewN _) (Nat.add_assoc _ _ _))⟩)) | (go_at_call 26; (with_reducible refine (spec_l1Word.calls k (a0_3 ++ (a1.extract a0_2.size a1.size)) t292 _ A9.out).mono ?_); rintro e w' ⟨rfl, ⟨nd, rfl⟩⟩; (try first | exact ⟨rfl, _, World.drewN_drewN _ _ _⟩ | exact ⟨rfl, _, Eq.trans (World.drewN_drewN _ _ _) (congrArg (World.drewN _) (Nat.add_assoc _ _ _))⟩))); try go_wp2_with (first | ((with_reducible refine gate_dst (N := 2) rfl ?_); refine be_ 2 68 #[.string a0_0, .bool true, .string a0_2, .string a0_3, .string a0_4] ?_; intro gb290 hg w10 hbox hb; have BK290 := Aside0.mk (hbox); have GW290 := Aside0.mk ((gs_ hg : w.heap.size ≤ gb290)); have GE290 := Aside0.mk ((gs_ hg : w.heap.size ≤ gb290)); replace HB := Aside0.mk (below_step (bl_) hb); clear hb hbox hg; have hcz11_0 := bc0_ BK290; have hcz11_1 := bc1_ BK290; have hcz11_2 := bc2_ BK290; have hcz11_3 := bc3_ BK290; have hcz11_4 := bc4_ BK290; have hfz11_0 := blk_frozen BK290.out 0; have hfz11_1 := blk_frozen BK290.out 1; have hfz11_2 := blk_frozen BK290.out 2; have hfz11_3 := blk_frozen BK290.out 3; have hfz11_4 := blk_frozen BK290.out 4) | (go_at_call 85; (with_reducible refine (spec_l2Begins.calls a1 a0_4 true _ A4.out).mono ?_); rintro e w' ⟨rfl, ⟨nd, rfl⟩⟩; (try first | exact ⟨rfl, _, World.drewN_drewN _ _ _⟩ | exact ⟨rfl, _, Eq.trans (World.drewN_drewN _ _ _) (congrArg (World.drewN _) (Nat.add_assoc _ _ _))⟩)) | (go_at_call 26; (with_reducible refine (spec_l1Word.calls k (a0_3 ++ (a1.extract a0_2.size a1.size)) t292 _ A9.out).mono ?_); rintro e w' ⟨rfl, ⟨nd, rfl⟩⟩; (try first | exact ⟨rfl, _, World.drewN_drewN _ _ _⟩ | exact ⟨rfl, _, Eq.trans (World.drewN_drewN _ _ _) (congrArg (World.drewN _) (Nat.add_assoc _ _ _))⟩))))
   go_ret2
   exact ⟨rfe_, bl_⟩
 · replace c3 := Bool.eq_false_iff.mpr c3
   subst c3
   have H1 : ((spec_l2Ends.f a1 a0_4).bind fun t293 => (if t293 = true then (if 0 ≤ (wrap64 ((a1.size : Int) - (a0_2.size : Int))) then (if (wrap64 ((a1.size : Int) - (a0_2.size : Int))) ≤ (a1.size : Int) then (if ((wrap64 ((a1.size : Int) - (a0_2.size : Int))) : Int).toNat + a0_3.size ≤ 9223372036854775807 then ((spec_l1Word.f k ((a1.extract 0 ((wrap64 ((a1.size : Int) - (a0_2.size : Int))) : Int).toNat) ++ a0_3)).bind fun t294 => (some ((a1.extract 0 ((wrap64 ((a1.size : Int) - (a0_2.size : Int))) : Int).toNat) ++ a0_3, t294))) else (none)) else (none)) else (none)) else (some ((⟨#[]⟩ : ByteArray), false)))) = some (r1, r2) := by rw [if_neg (show ¬ (false = true) by decide)] at H; exact H
   clear H
   have H := H1
   clear H1
   replace H := Option.bind_eq_some_iff.mp H
   obtain ⟨t293, A140, H⟩ := H; try dsimp only at H
   have A14 := Aside0.mk A140
   clear A140
   replace H := iub_ H; rcases H with ⟨rfl, H⟩ | ⟨rfl, H⟩
   · simp only [Option.some.injEq, Prod.mk.injEq] at H
     obtain ⟨rfl, rfl⟩ := H
     go_enter Try.func88, Try.ntmps88
     go_wp2_with (first | ((with_reducible refine gate_dst (N := 2) rfl ?_); refine be_ 2 68 #[.string a0_0, .bool false, .string a0_2, .string a0_3, .string a0_4] ?_; intro gb290 hg w23 hbox hb; have BK290 := Aside0.mk (hbox); have GW290 := Aside0.mk ((gs_ hg : w.heap.size ≤ gb290)); have GE290 := Aside0.mk ((gs_ hg : w.heap.size ≤ gb290)); replace HB := Aside0.mk (below_step (bl_) hb); clear hb hbox hg; have hcz24_0 := bc0_ BK290; have hcz24_1 := bc1_ BK290; have hcz24_2 := bc2_ BK290; have hcz24_3 := bc3_ BK290; have hcz24_4 := bc4_ BK290; have hfz24_0 := blk_frozen BK290.out 0; have hfz24_1 := blk_frozen BK290.out 1; have hfz24_2 := blk_frozen BK290.out 2; have hfz24_3 := blk_frozen BK290.out 3; have hfz24_4 := blk_frozen BK290.out 4) | (go_at_call 86; (with_reducible refine (spec_l2Ends.calls a1 a0_4 false _ A14.out).mono ?_); rintro e w' ⟨rfl, ⟨nd, rfl⟩⟩; (try first | exact ⟨rfl, _, World.drewN_drewN _ _ _⟩ | exact ⟨rfl, _, Eq.trans (World.drewN_drewN _ _ _) (congrArg (World.drewN _) (Nat.add_assoc _ _ _))⟩)))
     repeat (go_quiet (first | ((with_reducible refine gate_dst (N := 2) rfl ?_); refine be_ 2 68 #[.string a0_0, .bool false, .string a0_2, .string a0_3, .string a0_4] ?_; intro gb290 hg w23 hbox hb; have BK290 := Aside0.mk (hbox); have GW290 := Aside0.mk ((gs_ hg : w.heap.size ≤ gb290)); have GE290 := Aside0.mk ((gs_ hg : w.heap.size ≤ gb290)); replace HB := Aside0.mk (below_step (bl_) hb); clear hb hbox hg; have hcz24_0 := bc0_ BK290; have hcz24_1 := bc1_ BK290; have hcz24_2 := bc2_ BK290; have hcz24_3 := bc3_ BK290; have hcz24_4 := bc4_ BK290; have hfz24_0 := blk_frozen BK290.out 0; have hfz24_1 := blk_frozen BK290.out 1; have hfz24_2 := blk_frozen BK290.out 2; have hfz24_3 := blk_frozen BK290.out 3; have hfz24_4 := blk_frozen BK290.out 4) | (go_at_call 86; (with_reducible refine (spec_l2Ends.calls a1 a0_4 false _ A14.out).mono ?_); rintro e w' ⟨rfl, ⟨nd, rfl⟩⟩; (try first | exact ⟨rfl, _, World.drewN_drewN _ _ _⟩ | exact ⟨rfl, _, Eq.trans (World.drewN_drewN _ _ _) (congrArg (World.drewN _) (Nat.add_assoc _ _ _))⟩))); try go_wp2_with (first | ((with_reducible refine gate_dst (N := 2) rfl ?_); refine be_ 2 68 #[.string a0_0, .bool false, .string a0_2, .string a0_3, .string a0_4] ?_; intro gb290 hg w23 hbox hb; have BK290 := Aside0.mk (hbox); have GW290 := Aside0.mk ((gs_ hg : w.heap.size ≤ gb290)); have GE290 := Aside0.mk ((gs_ hg : w.heap.size ≤ gb290)); replace HB := Aside0.mk (below_step (bl_) hb); clear hb hbox hg; have hcz24_0 := bc0_ BK290; have hcz24_1 := bc1_ BK290; have hcz24_2 := bc2_ BK290; have hcz24_3 := bc3_ BK290; have hcz24_4 := bc4_ BK290; have hfz24_0 := blk_frozen BK290.out 0; have hfz24_1 := blk_frozen BK290.out 1; have hfz24_2 := blk_frozen BK290.out 2; have hfz24_3 := blk_frozen BK290.out 3; have hfz24_4 := blk_frozen BK290.out 4) | (go_at_call 86; (with_reducible refine (spec_l2Ends.calls a1 a0_4 false _ A14.out).mono ?_); rintro e w' ⟨rfl, ⟨nd, rfl⟩⟩; (try first | exact ⟨rfl, _, World.drewN_drewN _ _ _⟩ | exact ⟨rfl, _, Eq.trans (World.drewN_drewN _ _ _) (congrArg (World.drewN _) (Nat.add_assoc _ _ _))⟩))))
     go_ret2
     exact ⟨rfe_, bl_⟩
   obtain ⟨ji16, hji16⟩ : ∃ j_ : Int, (wrap64 ((a1.size : Int) - (a0_2.size : Int))) = j_ := ⟨_, rfl⟩
   replace H : (if 0 ≤ (ji16) then (if (ji16) ≤ (a1.size : Int) then (if ((ji16) : Int).toNat + a0_3.size ≤ 9223372036854775807 then ((spec_l1Word.f k ((a1.extract 0 ((ji16) : Int).toNat) ++ a0_3)).bind fun t294 => (some ((a1.extract 0 ((ji16) : Int).toNat) ++ a0_3, t294))) else (none)) else (none)) else (none)) = some (r1, r2) := by first | (rw [hji16] at H; exact H) | (simp only [hji16] at H ⊢; exact H)
   (try rw [hji16] at A14)
   have hji16w : (IntKind.i64.wrap ((a1.size : Int) - (a0_2.size : Int))) = ji16 := (i64_w _).trans hji16
   replace H := inc_ H; obtain ⟨c17, H⟩ := H
   have c17b0 := eq_true c17
   have c17b1 : decide (0 ≤ (ji16)) = true := decide_eq_true c17
   clear c17
   replace H := inc_ H; obtain ⟨c18, H⟩ := H
   have c18b0 := eq_true c18
   have c18b1 : decide ((ji16) ≤ (a1.size : Int)) = true := decide_eq_true c18
   clear c18
   replace H := inc_ H; obtain ⟨c19, H⟩ := H
   have c19b0 := eq_true c19
   have c19b1 : decide (((ji16) : Int).toNat + a0_3.size ≤ 9223372036854775807) = true := decide_eq_true c19
   try have c19b2 : (9223372036854775807 < ((ji16) : Int).toNat + a0_3.size) = False := eq_false (Nat.not_lt.2 c19)
   replace H := Option.bind_eq_some_iff.mp H
   obtain ⟨t294, A200, H⟩ := H; try dsimp only at H
   have A20 := Aside0.mk A200
   clear A200
   simp only [Option.some.injEq, Prod.mk.injEq] at H
   obtain ⟨rfl, rfl⟩ := H
   go_enter Try.func88, Try.ntmps88
   go_wp2_with (first | ((with_reducible refine gate_dst (N := 2) rfl ?_); refine be_ 2 68 #[.string a0_0, .bool false, .string a0_2, .string a0_3, .string a0_4] ?_; intro gb290 hg w21 hbox hb; have BK290 := Aside0.mk (hbox); have GW290 := Aside0.mk ((gs_ hg : w.heap.size ≤ gb290)); have GE290 := Aside0.mk ((gs_ hg : w.heap.size ≤ gb290)); replace HB := Aside0.mk (below_step (bl_) hb); clear hb hbox hg; have hcz22_0 := bc0_ BK290; have hcz22_1 := bc1_ BK290; have hcz22_2 := bc2_ BK290; have hcz22_3 := bc3_ BK290; have hcz22_4 := bc4_ BK290; have hfz22_0 := blk_frozen BK290.out 0; have hfz22_1 := blk_frozen BK290.out 1; have hfz22_2 := blk_frozen BK290.out 2; have hfz22_3 := blk_frozen BK290.out 3; have hfz22_4 := blk_frozen BK290.out 4) | (go_at_call 86; (with_reducible refine (spec_l2Ends.calls a1 a0_4 true _ A14.out).mono ?_); rintro e w' ⟨rfl, ⟨nd, rfl⟩⟩; (try first | exact ⟨rfl, _, World.drewN_drewN _ _ _⟩ | exact ⟨rfl, _, Eq.trans (World.drewN_drewN _ _ _) (congrArg (World.drewN _) (Nat.add_assoc _ _ _))⟩)) | (go_at_call 26; (with_reducible refine (spec_l1Word.calls k ((a1.extract 0 ((ji16) : Int).toNat) ++ a0_3) t294 _ A20.out).mono ?_); rintro e w' ⟨rfl, ⟨nd, rfl⟩⟩; (try first | exact ⟨rfl, _, World.drewN_drewN _ _ _⟩ | exact ⟨rfl, _, Eq.trans (World.drewN_drewN _ _ _) (congrArg (World.drewN _) (Nat.add_assoc _ _ _))⟩)))
   repeat (go_quiet (first | ((with_reducible refine gate_dst (N := 2) rfl ?_); refine be_ 2 68 #[.string a0_0, .bool false, .string a0_2, .string a0_3, .string a0_4] ?_; intro gb290 hg w21 hbox hb; have BK290 := Aside0.mk (hbox); have GW290 := Aside0.mk ((gs_ hg : w.heap.size ≤ gb290)); have GE290 := Aside0.mk ((gs_ hg : w.heap.size ≤ gb290)); replace HB := Aside0.mk (below_step (bl_) hb); clear hb hbox hg; have hcz22_0 := bc0_ BK290; have hcz22_1 := bc1_ BK290; have hcz22_2 := bc2_ BK290; have hcz22_3 := bc3_ BK290; have hcz22_4 := bc4_ BK290; have hfz22_0 := blk_frozen BK290.out 0; have hfz22_1 := blk_frozen BK290.out 1; have hfz22_2 := blk_frozen BK290.out 2; have hfz22_3 := blk_frozen BK290.out 3; have hfz22_4 := blk_frozen BK290.out 4) | (go_at_call 86; (with_reducible refine (spec_l2Ends.calls a1 a0_4 true _ A14.out).mono ?_); rintro e w' ⟨rfl, ⟨nd, rfl⟩⟩; (try first | exact ⟨rfl, _, World.drewN_drewN _ _ _⟩ | exact ⟨rfl, _, Eq.trans (World.drewN_drewN _ _ _) (congrArg (World.drewN _) (Nat.add_assoc _ _ _))⟩)) | (go_at_call 26; (with_reducible refine (spec_l1Word.calls k ((a1.extract 0 ((ji16) : Int).toNat) ++ a0_3) t294 _ A20.out).mono ?_); rintro e w' ⟨rfl, ⟨nd, rfl⟩⟩; (try first | exact ⟨rfl, _, World.drewN_drewN _ _ _⟩ | exact ⟨rfl, _, Eq.trans (World.drewN_drewN _ _ _) (congrArg (World.drewN _) (Nat.add_assoc _ _ _))⟩))); try go_wp2_with (first | ((with_reducible refine gate_dst (N := 2) rfl ?_); refine be_ 2 68 #[.string a0_0, .bool false, .string a0_2, .string a0_3, .string a0_4] ?_; intro gb290 hg w21 hbox hb; have BK290 := Aside0.mk (hbox); have GW290 := Aside0.mk ((gs_ hg : w.heap.size ≤ gb290)); have GE290 := Aside0.mk ((gs_ hg : w.heap.size ≤ gb290)); replace HB := Aside0.mk (below_step (bl_) hb); clear hb hbox hg; have hcz22_0 := bc0_ BK290; have hcz22_1 := bc1_ BK290; have hcz22_2 := bc2_ BK290; have hcz22_3 := bc3_ BK290; have hcz22_4 := bc4_ BK290; have hfz22_0 := blk_frozen BK290.out 0; have hfz22_1 := blk_frozen BK290.out 1; have hfz22_2 := blk_frozen BK290.out 2; have hfz22_3 := blk_frozen BK290.out 3; have hfz22_4 := blk_frozen BK290.out 4) | (go_at_call 86; (with_reducible refine (spec_l2Ends.calls a1 a0_4 true _ A14.out).mono ?_); rintro e w' ⟨rfl, ⟨nd, rfl⟩⟩; (try first | exact ⟨rfl, _, World.drewN_drewN _ _ _⟩ | exact ⟨rfl, _, Eq.trans (World.drewN_drewN _ _ _) (congrArg (World.drewN _) (Nat.add_assoc _ _ _))⟩)) | (go_at_call 26; (with_reducible refine (spec_l1Word.calls k ((a1.extract 0 ((ji16) : Int).toNat) ++ a0_3) t294 _ A20.out).mono ?_); rintro e w' ⟨rfl, ⟨nd, rfl⟩⟩; (try first | exact ⟨rfl, _, World.drewN_drewN _ _ _⟩ | exact ⟨rfl, _, Eq.trans (World.drewN_drewN _ _ _) (congrArg (World.drewN _) (Nat.add_assoc _ _ _))⟩))))
   go_ret2
   exact ⟨by first | rfl | (simp [errW_none, errW_some] <;> rfl) | (simp only [← hji16]; first | rfl | (simp [errW_none, errW_some] <;> rfl)) | (simp [*, errW_none, errW_some] <;> rfl), bl_⟩

end Go.Proofs.Ytbopiacjioedeaa.P
