-- Written by a program of this session (wip/gen/gen.py) out of Lean's print of the loaded program; Lean checks it.
import Derived.Test.YtbopiacjioedeaaP0
import Derived.Test.YtbopiacjioedeaaSq2
import Derived.Test.YtbopiacjioedeaaExtPut
import Derived.Test.YtbopiacjioedeaaP8
import Derived.Test.YtbopiacjioedeaaP11
namespace Go.Proofs.Ytbopiacjioedeaa.P
open Go.RowKit Go.Proofs.YtbopiacjioedeaaW.PrintWords Go.Proofs.YtbopiacjioedeaaW.PrintLast Go.Proofs.YtbopiacjioedeaaW.PrintMore
attribute [local go_sem] max2_int min2_int max_two min_two max_three min_three max_four min_four IntKind.wrap_u8 IntKind.wrap_u32 w64_256 w64_u32
set_option maxHeartbeats 8000000
set_option maxRecDepth 100000
set_option linter.unusedVariables false
set_option linter.unusedSimpArgs false

/-! ### spec_l2Do: function 88 -/
def spec_l2Do.f (k : Nat) (a0_0 : ByteArray) (a0_1 : Bool) (a0_2 : ByteArray) (a0_3 : ByteArray) (a0_4 : ByteArray) (a1 : ByteArray) : Option (ByteArray × Bool) := if a0_1 = true then ((spec_l2Begins.f a1 a0_4).bind fun t300 => (if t300 = true then (if 0 ≤ (a0_2.size : Int) then (if (a0_2.size : Int) ≤ (a1.size : Int) then (if a0_3.size + (a1.size - a0_2.size) ≤ 9223372036854775807 then ((spec_l1Word.f k (a0_3 ++ (a1.extract a0_2.size a1.size))).bind fun t301 => (some (a0_3 ++ (a1.extract a0_2.size a1.size), t301))) else (none)) else (none)) else (none)) else (some ((⟨#[]⟩ : ByteArray), false)))) else ((spec_l2Ends.f a1 a0_4).bind fun t302 => (if t302 = true then (if 0 ≤ (wrap64 ((a1.size : Int) - (a0_2.size : Int))) then (if (wrap64 ((a1.size : Int) - (a0_2.size : Int))) ≤ (a1.size : Int) then (if ((wrap64 ((a1.size : Int) - (a0_2.size : Int))) : Int).toNat + a0_3.size ≤ 9223372036854775807 then ((spec_l1Word.f k ((a1.extract 0 ((wrap64 ((a1.size : Int) - (a0_2.size : Int))) : Int).toNat) ++ a0_3)).bind fun t303 => (some ((a1.extract 0 ((wrap64 ((a1.size : Int) - (a0_2.size : Int))) : Int).toNat) ++ a0_3, t303))) else (none)) else (none)) else (none)) else (some ((⟨#[]⟩ : ByteArray), false))))
theorem spec_l2Do.mono : ∀ a0 a1 a2 a3 a4 a5 k, LeO (spec_l2Do.f k a0 a1 a2 a3 a4 a5) (spec_l2Do.f (k + 1) a0 a1 a2 a3 a4 a5) := by
 intro a0 a1 a2 a3 a4 a5 k
 unfold spec_l2Do.f
 have m0 := @spec_l1Word.mono
 exact mn_
theorem spec_l2Do.calls (k : Nat) (a0_0 : ByteArray) (a0_1 : Bool) (a0_2 : ByteArray) (a0_3 : ByteArray) (a0_4 : ByteArray) (a1 : ByteArray) (r1 : ByteArray) (r2 : Bool) (w : World) (h : spec_l2Do.f k a0_0 a0_1 a0_2 a0_3 a0_4 a1 = some (r1, r2)) :
 Calls Try.prog 88 #[.agg #[.string a0_0, .bool a0_1, .string a0_2, .string a0_3, .string a0_4], .string a1] w fun e w' => e = .returned (.tuple #[.string r1, .bool r2]) ∧ Below w.heap.size w w' := by
 have hu68 := Try.underlying68
 have HB := Aside0.mk (Below.refl w.heap.size w)
 unfold spec_l2Do.f at h; have H := h; clear h
 by_cases c3 : a0_1 = true
 · subst c3
   have H1 : ((spec_l2Begins.f a1 a0_4).bind fun t300 => (if t300 = true then (if 0 ≤ (a0_2.size : Int) then (if (a0_2.size : Int) ≤ (a1.size : Int) then (if a0_3.size + (a1.size - a0_2.size) ≤ 9223372036854775807 then ((spec_l1Word.f k (a0_3 ++ (a1.extract a0_2.size a1.size))).bind fun t301 => (some (a0_3 ++ (a1.extract a0_2.size a1.size), t301))) else (none)) else (none)) else (none)) else (some ((⟨#[]⟩ : ByteArray), false)))) = some (r1, r2) := by rw [if_pos rfl] at H; exact H
   clear H
   have H := H1
   clear H1
   replace H := Option.bind_eq_some_iff.mp H
   obtain ⟨t300, A40, H⟩ := H; try dsimp only at H
   have A4 := Aside0.mk A40
   clear A40
   replace H := iub_ H; rcases H with ⟨rfl, H⟩ | ⟨rfl, H⟩
   · simp only [Option.some.injEq, Prod.mk.injEq] at H
     obtain ⟨rfl, rfl⟩ := H
     go_enter Try.func88, Try.ntmps88
     go_wp2_with (first | ((with_reducible refine gate_dst (N := 2) rfl ?_); refine be_ 2 68 #[.string a0_0, .bool true, .string a0_2, .string a0_3, .string a0_4] ?_; intro gb299 hg w12 hbox hb; have BK299 := Aside0.mk (hbox); have GW299 := Aside0.mk ((gs_ hg : w.heap.size ≤ gb299)); have GE299 := Aside0.mk ((gs_ hg : w.heap.size ≤ gb299)); replace HB := Aside0.mk (below_step (bl_) hb); clear hb hbox hg; have hcz13_0 := bc0_ BK299; have hcz13_1 := bc1_ BK299; have hcz13_2 := bc2_ BK299; have hcz13_3 := bc3_ BK299; have hcz13_4 := bc4_ BK299; have hfz13_0 := blk_frozen BK299.out 0; have hfz13_1 := blk_frozen BK299.out 1; have hfz13_2 := blk_frozen BK299.out 2; have hfz13_3 := blk_frozen BK299.out 3; have hfz13_4 := blk_frozen BK299.out 4) | (go_at_call 85; (with_reducible refine (spec_l2Begins.calls a1 a0_4 false _ A4.out).mono ?_); rintro e w' ⟨rfl, ⟨nd, rfl⟩⟩; (try first | exact ⟨rfl, _, World.drewN_drewN _ _ _⟩ | exact ⟨rfl, _, Eq.trans (World.drewN_drewN _ _ _) (congrArg (World.drewN _) (Nat.add_assoc _ _ _))⟩)))
     repeat (go_quiet (first | ((with_reducible refine gate_dst (N := 2) rfl ?_); refine be_ 2 68 #[.string a0_0, .bool true, .string a0_2, .string a0_3, .string a0_4] ?_; intro gb299 hg w12 hbox hb; have BK299 := Aside0.mk (hbox); have GW299 := Aside0.mk ((gs_ hg : w.heap.size ≤ gb299)); have GE299 := Aside0.mk ((gs_ hg : w.heap.size ≤ gb299)); replace HB := Aside0.mk (below_step (bl_) hb); clear hb hbox hg; have hcz13_0 := bc0_ BK299; have hcz13_1 := bc1_ BK299; have hcz13_2 := bc2_ BK299; have hcz13_3 := bc3_ BK299; have hcz13_4 := bc4_ BK299; have hfz13_0 := blk_frozen BK299.out 0; have hfz13_1 := blk_frozen BK299.out 1; have hfz13_2 := blk_frozen BK299.out 2; have hfz13_3 := blk_frozen BK299.out 3; have hfz13_4 := blk_frozen BK299.out 4) | (go_at_call 85; (with_reducible refine (spec_l2Begins.calls a1 a0_4 false _ A4.out).mono ?_); rintro e w' ⟨rfl, ⟨nd, rfl⟩⟩; (try first | exact ⟨rfl, _, World.drewN_drewN _ _ _⟩ | exact ⟨rfl, _, Eq.trans (World.drewN_drewN _ _ _) (congrArg (World.drewN _) (Nat.add_assoc _ _ _))⟩))); try go_wp2_with (first | ((with_reducible refine gate_dst (N := 2) rfl ?_); refine be_ 2 68 #[.string a0_0, .bool true, .string a0_2, .string a0_3, .string a0_4] ?_; intro gb299 hg w12 hbox hb; have BK299 := Aside0.mk (hbox); have GW299 := Aside0.mk ((gs_ hg : w.heap.size ≤ gb299)); have GE299 := Aside0.mk ((gs_ hg : w.heap.size ≤ gb299)); replace HB := Aside0.mk (below_step (bl_) hb); clear hb hbox hg; have hcz13_0 := bc0_ BK299; have hcz13_1 := bc1_ BK299; have hcz13_2 := bc2_ BK299; have hcz13_3 := bc3_ BK299; have hcz13_4 := bc4_ BK299; have hfz13_0 := blk_frozen BK299.out 0; have hfz13_1 := blk_frozen BK299.out 1; have hfz13_2 := blk_frozen BK299.out 2; have hfz13_3 := blk_frozen BK299.out 3; have hfz13_4 := blk_frozen BK299.out 4) | (go_at_call 85; (with_reducible refine (spec_l2Begins.calls a1 a0_4 false _ A4.out).mono ?_); rintro e w' ⟨rfl, ⟨nd, rfl⟩⟩; (try first | exact ⟨rfl, _, World.drewN_drewN _ _ _⟩ | exact ⟨rfl, _, Eq.trans (World.drewN_drewN _ _ _) (congrArg (World.drewN _) (Nat.add_assoc _ _ _))⟩))))
     go_ret2
     exact ⟨rfe_, bl_⟩
   replace H := inc_ H; obtain ⟨c6, H⟩ := H
   have c6b0 := eq_true c6
   have c6b1 : decide (0 ≤ (a0_2.size : Int)) = true := decide_eq_true c6
   clear c6
   replace H := inc_ H; obtain ⟨c7, H⟩ := H
   have c7b0 := eq_true c7
   have c7b1 : decide ((a0_2.size : Int) ≤ (a1.size : Int)) = true := decide_eq_true c7
   clear c7
   replace H := inc_ H; obtain ⟨c8, H⟩ := H
   have c8b0 := eq_true c8
   have c8b1 : decide (a0_3.size + (a1.size - a0_2.size) ≤ 9223372036854775807) = true := decide_eq_true c8
   try have c8b2 : (9223372036854775807 < a0_3.size + (a1.size - a0_2.size)) = False := eq_false (Nat.not_lt.2 c8)
   replace H := Option.bind_eq_some_iff.mp H
   obtain ⟨t301, A90, H⟩ := H; try dsimp only at H
   have A9 := Aside0.mk A90
   clear A90
   simp only [Option.some.injEq, Prod.mk.injEq] at H
   obtain ⟨rfl, rfl⟩ := H
   go_enter Try.func88, Try.ntmps88
   go_wp2_with (first | ((with_reducible refine gate_dst (N := 2) rfl ?_); refine be_ 2 68 #[.string a0_0, .bool true, .string a0_2, .string a0_3, .string a0_4] ?_; intro gb299 hg w10 hbox hb; have BK299 := Aside0.mk (hbox); have GW299 := Aside0.mk ((gs_ hg : w.heap.size ≤ gb299)); have GE299 := Aside0.mk ((gs_ hg : w.heap.size ≤ gb299)); replace HB := Aside0.mk (below_step (bl_) hb); clear hb hbox hg; have hcz11_0 := bc0_ BK299; have hcz11_1 := bc1_ BK299; have hcz11_2 := bc2_ BK299; have hcz11_3 := bc3_ BK299; have hcz11_4 := bc4_ BK299; have hfz11_0 := blk_frozen BK299.out 0; have hfz11_1 := blk_frozen BK299.out 1; have hfz11_2 := blk_frozen BK299.out 2; have hfz11_3 := blk_frozen BK299.out 3; have hfz11_4 := blk_frozen BK299.out 4) | (go_at_call 85; (with_reducible refine (spec_l2Begins.calls a1 a0_4 true _ A4.out).mono ?_); rintro e w' ⟨rfl, ⟨nd, rfl⟩⟩; (try first | exact ⟨rfl, _, World.drewN_drewN _ _ _⟩ | exact ⟨rfl, _, Eq.trans (World.drewN_drewN _ _ _) (congrArg (World.drewN _) (Nat.add_assoc _ _ _))⟩)) | (go_at_call 26; (with_reducible refine (spec_l1Word.calls k (a0_3 ++ (a1.extract a0_2.size a1.size)) t301 _ A9.out).mono ?_); rintro e w' ⟨rfl, ⟨nd, rfl⟩⟩; (try first | exact ⟨rfl, _, World.drewN_drewN _ _ _⟩ | exact ⟨rfl, _, Eq.trans (World.drewN_drewN _ _ _) (congrArg (World.drewN _) (Nat.add_assoc _ _ _))⟩)))
   repeat (go_quiet (first | ((with_reducible refine gate_dst (N := 2) rfl ?_); refine be_ 2 68 #[.string a0_0, .bool true, .string a0_2, .string a0_3, .string a0_4] ?_; intro gb299 hg w10 hbox hb; have BK299 := Aside0.mk (hbox); have GW299 := Aside0.mk ((gs_ hg : w.heap.size ≤ gb299)); have GE299 := Aside0.mk ((gs_ hg : w.heap.size ≤ gb299)); replace HB := Aside0.mk (below_step (bl_) hb); clear hb hbox hg; have hcz11_0 := bc0_ BK299; have hcz11_1 := bc1_ BK299; have hcz11_2 := bc2_ BK299; have hcz11_3 := bc3_ BK299; have hcz11_4 := bc4_ BK299; have hfz11_0 := blk_frozen BK299.out 0; have hfz11_1 := blk_frozen BK299.out 1; have hfz11_2 := blk_frozen BK299.out 2; have hfz11_3 := blk_frozen BK299.out 3; have hfz11_4 := blk_frozen BK299.out 4) | (go_at_call 85; (with_reducible refine (spec_l2Begins.calls a1 a0_4 true _ A4.out).mono ?_); rintro e w' ⟨rfl, ⟨nd, rfl⟩⟩; (try first | exact ⟨rfl, _, World.drewN_drewN _ _ _⟩ | exact ⟨rfl, _, Eq.trans (World.drewN_drewN _ _ _) (congrArg (World.drewN _) (Nat.add_assoc _ _ _))⟩)) | (go_at_call 26; (with_reducible refine (spec_l1Word.calls k (a0_3 ++ (a1.extract a0_2.size a1.size)) t301 _ A9.out).mono ?_); rintro e w' ⟨rfl, ⟨nd, rfl⟩⟩; (try first | exact ⟨rfl, _, World.drewN_drewN _ _ _⟩ | exact ⟨rfl, _, Eq.trans (World.drewN_drewN _ _ _) (congrArg (World.drewN _) (Nat.add_assoc _ _ _))⟩))); try go_wp2_with (first | ((with_reducible refine gate_dst (N := 2) rfl ?_); refine be_ 2 68 #[.string a0_0, .bool true, .string a0_2, .string a0_3, .string a0_4] ?_; intro gb299 hg w10 hbox hb; have BK299 := Aside0.mk (hbox); have GW299 := Aside0.mk ((gs_ hg : w.heap.size ≤ gb299)); have GE299 := Aside0.mk ((gs_ hg : w.heap.size ≤ gb299)); replace HB := Aside0.mk (below_step (bl_) hb); clear hb hbox hg; have hcz11_0 := bc0_ BK299; have hcz11_1 := bc1_ BK299; have hcz11_2 := bc2_ BK299; have hcz11_3 := bc3_ BK299; have hcz11_4 := bc4_ BK299; have hfz11_0 := blk_frozen BK299.out 0; have hfz11_1 := blk_frozen BK299.out 1; have hfz11_2 := blk_frozen BK299.out 2; have hfz11_3 := blk_frozen BK299.out 3; have hfz11_4 := blk_frozen BK299.out 4) | (go_at_call 85; (with_reducible refine (spec_l2Begins.calls a1 a0_4 true _ A4.out).mono ?_); rintro e w' ⟨rfl, ⟨nd, rfl⟩⟩; (try first | exact ⟨rfl, _, World.drewN_drewN _ _ _⟩ | exact ⟨rfl, _, Eq.trans (World.drewN_drewN _ _ _) (congrArg (World.drewN _) (Nat.add_assoc _ _ _))⟩)) | (go_at_call 26; (with_reducible refine (spec_l1Word.calls k (a0_3 ++ (a1.extract a0_2.size a1.size)) t301 _ A9.out).mono ?_); rintro e w' ⟨rfl, ⟨nd, rfl⟩⟩; (try first | exact ⟨rfl, _, World.drewN_drewN _ _ _⟩ | exact ⟨rfl, _, Eq.trans (World.drewN_drewN _ _ _) (congrArg (World.drewN _) (Nat.add_assoc _ _ _))⟩))))
   go_ret2
   exact ⟨rfe_, bl_⟩
 · replace c3 := Bool.eq_false_iff.mpr c3
   subst c3
   have H1 : ((spec_l2Ends.f a1 a0_4).bind fun t302 => (if t302 = true then (if 0 ≤ (wrap64 ((a1.size : Int) - (a0_2.size : Int))) then (if (wrap64 ((a1.size : Int) - (a0_2.size : Int))) ≤ (a1.size : Int) then (if ((wrap64 ((a1.size : Int) - (a0_2.size : Int))) : Int).toNat + a0_3.size ≤ 9223372036854775807 then ((spec_l1Word.f k ((a1.extract 0 ((wrap64 ((a1.size : Int) - (a0_2.size : Int))) : Int).toNat) ++ a0_3)).bind fun t303 => (some ((a1.extract 0 ((wrap64 ((a1.size : Int) - (a0_2.size : Int))) : Int).toNat) ++ a0_3, t303))) else (none)) else (none)) else (none)) else (some ((⟨#[]⟩ : ByteArray), false)))) = some (r1, r2) := by rw [if_neg (show ¬ (false = true) by decide)] at H; exact H
   clear H
   have H := H1
   clear H1
   replace H := Option.bind_eq_some_iff.mp H
   obtain ⟨t302, A140, H⟩ := H; try dsimp only at H
   have A14 := Aside0.mk A140
   clear A140
   replace H := iub_ H; rcases H with ⟨rfl, H⟩ | ⟨rfl, H⟩
   · simp only [Option.some.injEq, Prod.mk.injEq] at H
     obtain ⟨rfl, rfl⟩ := H
     go_enter Try.func88, Try.ntmps88
     go_wp2_with (first | ((with_reducible refine gate_dst (N := 2) rfl ?_); refine be_ 2 68 #[.string a0_0, .bool false, .string a0_2, .string a0_3, .string a0_4] ?_; intro gb299 hg w23 hbox hb; have BK299 := Aside0.mk (hbox); have GW299 := Aside0.mk ((gs_ hg : w.heap.size ≤ gb299)); have GE299 := Aside0.mk ((gs_ hg : w.heap.size ≤ gb299)); replace HB := Aside0.mk (below_step (bl_) hb); clear hb hbox hg; have hcz24_0 := bc0_ BK299; have hcz24_1 := bc1_ BK299; have hcz24_2 := bc2_ BK299; have hcz24_3 := bc3_ BK299; have hcz24_4 := bc4_ BK299; have hfz24_0 := blk_frozen BK299.out 0; have hfz24_1 := blk_frozen BK299.out 1; have hfz24_2 := blk_frozen BK299.out 2; have hfz24_3 := blk_frozen BK299.out 3; have hfz24_4 := blk_frozen BK299.out 4) | (go_at_call 86; (with_reducible refine (spec_l2Ends.calls a1 a0_4 false _ A14.out).mono ?_); rintro e w' ⟨rfl, ⟨nd, rfl⟩⟩; (try first | exact ⟨rfl, _, World.drewN_drewN _ _ _⟩ | exact ⟨rfl, _, Eq.trans (World.drewN_drewN _ _ _) (congrArg (World.drewN _) (Nat.add_assoc _ _ _))⟩)))
     repeat (go_quiet (first | ((with_reducible refine gate_dst (N := 2) rfl ?_); refine be_ 2 68 #[.string a0_0, .bool false, .string a0_2, .string a0_3, .string a0_4] ?_; intro gb299 hg w23 hbox hb; have BK299 := Aside0.mk (hbox); have GW299 := Aside0.mk ((gs_ hg : w.heap.size ≤ gb299)); have GE299 := Aside0.mk ((gs_ hg : w.heap.size ≤ gb299)); replace HB := Aside0.mk (below_step (bl_) hb); clear hb hbox hg; have hcz24_0 := bc0_ BK299; have hcz24_1 := bc1_ BK299; have hcz24_2 := bc2_ BK299; have hcz24_3 := bc3_ BK299; have hcz24_4 := bc4_ BK299; have hfz24_0 := blk_frozen BK299.out 0; have hfz24_1 := blk_frozen BK299.out 1; have hfz24_2 := blk_frozen BK299.out 2; have hfz24_3 := blk_frozen BK299.out 3; have hfz24_4 := blk_frozen BK299.out 4) | (go_at_call 86; (with_reducible refine (spec_l2Ends.calls a1 a0_4 false _ A14.out).mono ?_); rintro e w' ⟨rfl, ⟨nd, rfl⟩⟩; (try first | exact ⟨rfl, _, World.drewN_drewN _ _ _⟩ | exact ⟨rfl, _, Eq.trans (World.drewN_drewN _ _ _) (congrArg (World.drewN _) (Nat.add_assoc _ _ _))⟩))); try go_wp2_with (first | ((with_reducible refine gate_dst (N := 2) rfl ?_); refine be_ 2 68 #[.string a0_0, .bool false, .string a0_2, .string a0_3, .string a0_4] ?_; intro gb299 hg w23 hbox hb; have BK299 := Aside0.mk (hbox); have GW299 := Aside0.mk ((gs_ hg : w.heap.size ≤ gb299)); have GE299 := Aside0.mk ((gs_ hg : w.heap.size ≤ gb299)); replace HB := Aside0.mk (below_step (bl_) hb); clear hb hbox hg; have hcz24_0 := bc0_ BK299; have hcz24_1 := bc1_ BK299; have hcz24_2 := bc2_ BK299; have hcz24_3 := bc3_ BK299; have hcz24_4 := bc4_ BK299; have hfz24_0 := blk_frozen BK299.out 0; have hfz24_1 := blk_frozen BK299.out 1; have hfz24_2 := blk_frozen BK299.out 2; have hfz24_3 := blk_frozen BK299.out 3; have hfz24_4 := blk_frozen BK299.out 4) | (go_at_call 86; (with_reducible refine (spec_l2Ends.calls a1 a0_4 false _ A14.out).mono ?_); rintro e w' ⟨rfl, ⟨nd, rfl⟩⟩; (try first | exact ⟨rfl, _, World.drewN_drewN _ _ _⟩ | exact ⟨rfl, _, Eq.trans (World.drewN_drewN _ _ _) (congrArg (World.drewN _) (Nat.add_assoc _ _ _))⟩))))
     go_ret2
     exact ⟨rfe_, bl_⟩
   obtain ⟨ji16, hji16⟩ : ∃ j_ : Int, (wrap64 ((a1.size : Int) - (a0_2.size : Int))) = j_ := ⟨_, rfl⟩
   replace H : (if 0 ≤ (ji16) then (if (ji16) ≤ (a1.size : Int) then (if ((ji16) : Int).toNat + a0_3.size ≤ 9223372036854775807 then ((spec_l1Word.f k ((a1.extract 0 ((ji16) : Int).toNat) ++ a0_3)).bind fun t303 => (some ((a1.extract 0 ((ji16) : Int).toNat) ++ a0_3, t303))) else (none)) else (none)) else (none)) = some (r1, r2) := by first | (rw [hji16] at H; exact H) | (simp only [hji16] at H ⊢; exact H)
   (try rw [hji16] at A14)
   have hji16w : (IntKind.i64.wrap ((a1.size : Int) - (a0_2.size : Int))) = ji16 := (i64_w _).trans hji16
   replace H := inc_ H; obtain ⟨c17, H⟩ := H
   have c17b0 := eq_true c17
   have c17b1 : decide (0 ≤ (ji16)) = true := decide_eq_true c17
   clear c17
   replace H := inc_ H; obtain ⟨c18, H⟩ := H
   have c18b0 := eq_true c18
   have c18b1 : decide ((ji16) ≤ (a1.size : Int)) = true := decide_eq_true c18
   clear c18
   replace H := inc_ H; obtain ⟨c19, H⟩ := H
   have c19b0 := eq_true c19
   have c19b1 : decide (((ji16) : Int).toNat + a0_3.size ≤ 9223372036854775807) = true := decide_eq_true c19
   try have c19b2 : (9223372036854775807 < ((ji16) : Int).toNat + a0_3.size) = False := eq_false (Nat.not_lt.2 c19)
   replace H := Option.bind_eq_some_iff.mp H
   obtain ⟨t303, A200, H⟩ := H; try dsimp only at H
   have A20 := Aside0.mk A200
   clear A200
   simp only [Option.some.injEq, Prod.mk.injEq] at H
   obtain ⟨rfl, rfl⟩ := H
   go_enter Try.func88, Try.ntmps88
   go_wp2_with (first | ((with_reducible refine gate_dst (N := 2) rfl ?_); refine be_ 2 68 #[.string a0_0, .bool false, .string a0_2, .string a0_3, .string a0_4] ?_; intro gb299 hg w21 hbox hb; have BK299 := Aside0.mk (hbox); have GW299 := Aside0.mk ((gs_ hg : w.heap.size ≤ gb299)); have GE299 := Aside0.mk ((gs_ hg : w.heap.size ≤ gb299)); replace HB := Aside0.mk (below_step (bl_) hb); clear hb hbox hg; have hcz22_0 := bc0_ BK299; have hcz22_1 := bc1_ BK299; have hcz22_2 := bc2_ BK299; have hcz22_3 := bc3_ BK299; have hcz22_4 := bc4_ BK299; have hfz22_0 := blk_frozen BK299.out 0; have hfz22_1 := blk_frozen BK299.out 1; have hfz22_2 := blk_frozen BK299.out 2; have hfz22_3 := blk_frozen BK299.out 3; have hfz22_4 := blk_frozen BK299.out 4) | (go_at_call 86; (with_reducible refine (spec_l2Ends.calls a1 a0_4 true _ A14.out).mono ?_); rintro e w' ⟨rfl, ⟨nd, rfl⟩⟩; (try first | exact ⟨rfl, _, World.drewN_drewN _ _ _⟩ | exact ⟨rfl, _, Eq.trans (World.drewN_drewN _ _ _) (congrArg (World.drewN _) (Nat.add_assoc _ _ _))⟩)) | (go_at_call 26; (with_reducible refine (spec_l1Word.calls k ((a1.extract 0 ((ji16) : Int).toNat) ++ a0_3) t303 _ A20.out).mono ?_); rintro e w' ⟨rfl, ⟨nd, rfl⟩⟩; (try first | exact ⟨rfl, _, World.drewN_drewN _ _ _⟩ | exact ⟨rfl, _, Eq.trans (World.drewN_drewN _ _ _) (congrArg (World.drewN _) (Nat.add_assoc _ _ _))⟩)))
   repeat (go_quiet (first | ((with_reducible refine gate_dst (N := 2) rfl ?_); refine be_ 2 68 #[.string a0_0, .bool false, .string a0_2, .string a0_3, .string a0_4] ?_; intro gb299 hg w21 hbox hb; have BK299 := Aside0.mk (hbox); have GW299 := Aside0.mk ((gs_ hg : w.heap.size ≤ gb299)); have GE299 := Aside0.mk ((gs_ hg : w.heap.size ≤ gb299)); replace HB := Aside0.mk (below_step (bl_) hb); clear hb hbox hg; have hcz22_0 := bc0_ BK299; have hcz22_1 := bc1_ BK299; have hcz22_2 := bc2_ BK299; have hcz22_3 := bc3_ BK299; have hcz22_4 := bc4_ BK299; have hfz22_0 := blk_frozen BK299.out 0; have hfz22_1 := blk_frozen BK299.out 1; have hfz22_2 := blk_frozen BK299.out 2; have hfz22_3 := blk_frozen BK299.out 3; have hfz22_4 := blk_frozen BK299.out 4) | (go_at_call 86; (with_reducible refine (spec_l2Ends.calls a1 a0_4 true _ A14.out).mono ?_); rintro e w' ⟨rfl, ⟨nd, rfl⟩⟩; (try first | exact ⟨rfl, _, World.drewN_drewN _ _ _⟩ | exact ⟨rfl, _, Eq.trans (World.drewN_drewN _ _ _) (congrArg (World.drewN _) (Nat.add_assoc _ _ _))⟩)) | (go_at_call 26; (with_reducible refine (spec_l1Word.calls k ((a1.extract 0 ((ji16) : Int).toNat) ++ a0_3) t303 _ A20.out).mono ?_); rintro e w' ⟨rfl, ⟨nd, rfl⟩⟩; (try first | exact ⟨rfl, _, World.drewN_drewN _ _ _⟩ | exact ⟨rfl, _, Eq.trans (World.drewN_drewN _ _ _) (congrArg (World.drewN _) (Nat.add_assoc _ _ _))⟩))); try go_wp2_with (first | ((with_reducible refine gate_dst (N := 2) rfl ?_); refine be_ 2 68 #[.string a0_0, .bool false, .string a0_2, .string a0_3, .string a0_4] ?_; intro gb299 hg w21 hbox hb; have BK299 := Aside0.mk (hbox); have GW299 := Aside0.mk ((gs_ hg : w.heap.size ≤ gb299)); have GE299 := Aside0.mk ((gs_ hg : w.heap.size ≤ gb299)); replace HB := Aside0.mk (below_step (bl_) hb); clear hb hbox hg; have hcz22_0 := bc0_ BK299; have hcz22_1 := bc1_ BK299; have hcz22_2 := bc2_ BK299; have hcz22_3 := bc3_ BK299; have hcz22_4 := bc4_ BK299; have hfz22_0 := blk_frozen BK299.out 0; have hfz22_1 := blk_frozen BK299.out 1; have hfz22_2 := blk_frozen BK299.out 2; have hfz22_3 := blk_frozen BK299.out 3; have hfz22_4 := blk_frozen BK299.out 4) | (go_at_call 86; (with_reducible refine (spec_l2Ends.calls a1 a0_4 true _ A14.out).mono ?_); rintro e w' ⟨rfl, ⟨nd, rfl⟩⟩; (try first | exact ⟨rfl, _, World.drewN_drewN _ _ _⟩ | exact ⟨rfl, _, Eq.trans (World.drewN_drewN _ _ _) (congrArg (World.drewN _) (Nat.add_assoc _ _ _))⟩)) | (go_at_call 26; (with_reducible refine (spec_l1Word.calls k ((a1.extract 0 ((ji16) : Int).toNat) ++ a0_3) t303 _ A20.out).mono ?_); rintro e w' ⟨rfl, ⟨nd, rfl⟩⟩; (try first | exact ⟨rfl, _, World.drewN_drewN _ _ _⟩ | exact ⟨rfl, _, Eq.trans (World.drewN_drewN _ _ _) (congrArg (World.drewN _) (Nat.add_assoc _ _ _))⟩))))
   go_ret2
   exact ⟨by first | rfl | (simp [errW_none, errW_some] <;> rfl) | (simp only [← hji16]; first | rfl | (simp [errW_none, errW_some] <;> rfl)) | (simp [*, errW_none, errW_some] <;> rfl), bl_⟩

/-! ### spec_l2One: function 76 -/
mutual
def spec_l2One.l0 : Nat → List (S68) → ByteArray → Bool → List ByteArray → List ByteArray → Int → Option (List ByteArray)
 | 0, _, _, _, _, _, _ => none
 | k + 1, x0, x1, x2, x3, x9, x10 => if x10 < (x0.length : Int) then (if 0 ≤ x10 then (if (((rd_T68 x0 x10).f1) != x2) = true then (spec_l2One.j1 k x0 x1 x2 x3 x9 x10 true) else ((spec_l2Has.f k x1 ((rd_T68 x0 x10).f0)).bind fun t312 => (spec_l2One.j1 k x0 x1 x2 x3 x9 x10 (!t312)))) else (none)) else (some x9)
def spec_l2One.j1 : Nat → List (S68) → ByteArray → Bool → List ByteArray → List ByteArray → Int → Bool → Option (List ByteArray)
 | 0, _, _, _, _, _, _, _ => none
 | k + 1, x0, x1, x2, x3, x9, x10, x39 => if x39 = true then (spec_l2One.l0 k x0 x1 x2 x3 x9 (wrap64 (x10 + 1))) else (spec_l2One.l1 k x0 x1 x2 x3 x9 x10 0)
def spec_l2One.l1 : Nat → List (S68) → ByteArray → Bool → List ByteArray → List ByteArray → Int → Int → Option (List ByteArray)
 | 0, _, _, _, _, _, _, _ => none
 | k + 1, x0, x1, x2, x3, x9, x10, x11 => if x11 < (x3.length : Int) then (if 0 ≤ x10 then (if x10 < (x0.length : Int) then (if 0 ≤ x11 then ((spec_l2Do.f k ((rd_T68 x0 x10).f0) ((rd_T68 x0 x10).f1) ((rd_T68 x0 x10).f2) ((rd_T68 x0 x10).f3) ((rd_T68 x0 x10).f4) (rdOf ByteArray.empty x3 x11)).bind fun bt315 => (if bt315.2 = true then ((spec_l1Put.f k x9 bt315.1).bind fun t317 => (spec_l2One.l1 k x0 x1 x2 x3 t317 x10 (wrap64 (x11 + 1)))) else (spec_l2One.l1 k x0 x1 x2 x3 x9 x10 (wrap64 (x11 + 1))))) else (none)) else (none)) else (none)) else (spec_l2One.l0 k x0 x1 x2 x3 x9 (wrap64 (x10 + 1)))
end
def spec_l2One.f (k : Nat) (l0 : List (S68)) (a1 : ByteArray) (a2 : Bool) (l3 : List ByteArray) : Option (List ByteArray) := (some (([] : List ByteArray) : List ByteArray)).bind fun y304 => (if y304.length + l3.length < 8796093022208 then (spec_l2One.l0 k l0 a1 a2 l3 (y304 ++ l3) 0) else (none))
theorem spec_l2One.mono_l : ∀ k, (∀ y0 y1 y2 y3 y4 y5, LeO (spec_l2One.l0 k y0 y1 y2 y3 y4 y5) (spec_l2One.l0 (k + 1) y0 y1 y2 y3 y4 y5)) ∧ (∀ y0 y1 y2 y3 y4 y5 y6, LeO (spec_l2One.j1 k y0 y1 y2 y3 y4 y5 y6) (spec_l2One.j1 (k + 1) y0 y1 y2 y3 y4 y5 y6)) ∧ (∀ y0 y1 y2 y3 y4 y5 y6, LeO (spec_l2One.l1 k y0 y1 y2 y3 y4 y5 y6) (spec_l2One.l1 (k + 1) y0 y1 y2 y3 y4 y5 y6))
 | 0 => ⟨fun _ _ _ _ _ _ r h => by simp [spec_l2One.l0] at h, fun _ _ _ _ _ _ _ r h => by simp [spec_l2One.j1] at h, fun _ _ _ _ _ _ _ r h => by simp [spec_l2One.l1] at h⟩
 | k + 1 => by
  obtain ⟨ih0, ih1, ih2⟩ := spec_l2One.mono_l k
  refine ⟨?_, ?_, ?_⟩
  · intro y0 y1 y2 y3 y4 y5
    unfold spec_l2One.l0
    have m0 := @spec_l1Put.mono
    have m1 := @spec_l2Do.mono
    have m2 := @spec_l2Has.mono
    exact mn_
  · intro y0 y1 y2 y3 y4 y5 y6
    unfold spec_l2One.j1
    have m0 := @spec_l1Put.mono
    have m1 := @spec_l2Do.mono
    have m2 := @spec_l2Has.mono
    exact mn_
  · intro y0 y1 y2 y3 y4 y5 y6
    unfold spec_l2One.l1
    have m0 := @spec_l1Put.mono
    have m1 := @spec_l2Do.mono
    have m2 := @spec_l2Has.mono
    exact mn_
theorem spec_l2One.mono : ∀ a0 a1 a2 a3 k, LeO (spec_l2One.f k a0 a1 a2 a3) (spec_l2One.f (k + 1) a0 a1 a2 a3) := by
 intro a0 a1 a2 a3 k
 obtain ⟨ih0, ih1, ih2⟩ := spec_l2One.mono_l k
 unfold spec_l2One.f
 have m0 := @spec_l1Put.mono
 have m1 := @spec_l2Do.mono
 have m2 := @spec_l2Has.mono
 exact mn_
def spec_l2One.T9 : Bool × List (List Nat × List Nat) := (true, [([], []), ([], []), ([0, 1], [0, 1]), ([2], [2]), ([], []), ([], []), ([4, 5], [4, 5]), ([6], [6]), ([3, 7], [3, 7]), ([8], [8]), ([9], [9]), ([9], [9]), ([10, 8, 0, 1, 2, 3, 4, 5, 6, 7, 8, 9, 10], [10]), ([11, 12, 0, 1, 2, 3, 4, 5, 6, 7, 8, 9, 10, 11, 12], [11])])
def spec_l2One.B9 : List Nat := [0, 0, 3, 7, 0, 0, 48, 112, 255, 511, 1023, 1023, 2047, 8191]
theorem spec_l2One.tab9 : rtab .any (opsOf Try.f76 9) = spec_l2One.T9 := by kernel_rfl
theorem spec_l2One.bits9 : waitsOk spec_l2One.T9.2 spec_l2One.B9 = true := by kernel_rfl
theorem spec_l2One.calls (k : Nat) (A0 : Option Addr) (c0 : Nat) (l0 : List (S68)) (a1 : ByteArray) (a2 : Bool) (A3 : Option Addr) (c3 : Nat) (l3 : List ByteArray) (r : List ByteArray) (w : World) (hr0 : Kd.C k68 w A0 l0.length l0) (hc0 : l0.length ≤ c0) (hr3 : Kd.C Kd.string w A3 l3.length l3) (hc3 : l3.length ≤ c3) (h : spec_l2One.f k l0 a1 a2 l3 = some r) :
 Calls Try.prog 76 #[.slice A0 l0.length c0, .string a1, .bool a2, .slice A3 l3.length c3] w fun e w' => ∃ v0_ : Value, e = .returned (v0_) ∧ Kd.R Kd.string 9 w' w.heap.size (fun _ => True) v0_ r ∧ Below w.heap.size w w' := by
 have hu68 := Try.underlying68
 have HR0 := Aside0.mk hr0
 have HC0 := Aside0.mk hc0
 clear hr0 hc0
 have HR3 := Aside0.mk hr3
 have HC3 := Aside0.mk hc3
 clear hr3 hc3
 have HB := Aside0.mk (Below.refl w.heap.size w)
 unfold spec_l2One.f at h; have H := h; clear h
 obtain ⟨y304, hy_⟩ : ∃ y_ : List ByteArray, y_ = (([] : List ByteArray)) := ⟨_, rfl⟩
 replace H : (if y304.length + l3.length < 8796093022208 then (spec_l2One.l0 k l0 a1 a2 l3 (y304 ++ l3) 0) else (none)) = some r := ry_
 have Ny304 := Aside0.mk hy_; clear hy_
 replace H := inc_ H; obtain ⟨c5, H⟩ := H
 have LMc5 := Aside0.mk c5
 clear c5
 obtain ⟨y307, hy_⟩ : ∃ y_ : List ByteArray, y_ = (y304 ++ l3) := ⟨_, rfl⟩
 replace H : (spec_l2One.l0 k l0 a1 a2 l3 y307 0) = some r := ry_
 have Ny307 := Aside0.mk hy_; clear hy_
 have H' := Aside0.mk H; clear H
 go_enter Try.func76, Try.ntmps76
 go_wp2_with (first | ((with_reducible refine gate_dst (N := 14) rfl ?_); refine rl_ Kd.string 9 14 ([] : List ByteArray) [] ?_; intro v305 w6 ho7 hb hg_ hnew_; clear hg_ hnew_; (first | rw [← Ny304.out] at ho7 | (simp only [Int.reduceToNat, Int.toNat_natCast] at ho7; rw [← Ny304.out] at ho7)); have HO306 := Aside0.mk (Kd.R_lower ho7 (below_size (bl_))); replace HB := Aside0.mk (below_step (bl_) hb); clear hb ho7) | ((with_reducible refine gate_builtin (b := .append) (xs := #[.tmp 14, .tmp 15]) rfl ?_); at_builtin; refine Kd.R_append_rows Kd.string (w0 := w) w.heap.size rfl (.tmp 14) (.tmp 15) 29 9 (.string ⟨#[]⟩) 16 rfl Try.underlying29 info9 rfl (by decide) (by omega) v305 y304 l3 _ _ _ (fun _ => True) (fun _ => False) rfl rfl ?aO ?aR (fun _ _ h => h) (fun _ h => h.elim) ?aF ?aB ?aS ?aL ?_; (case aR => exact cb_ HR3); (case aB => exact (bl_)); (case aF => exact (fun _ _ => trivial)); (case aO => exact (kR_ HO306)); (case aS => exact (below_size (bl_))); (case aL => have := LMc5.out; omega); intro v308 w8 ho hb hg hat; rw [← Ny307.out] at ho; replace HB := Aside0.mk (hb); have HO309 := Aside0.mk (ho); clear HO306; clear ho hb hg hat))
 go_loopg [9, 10] k (fun kq v9 v10 w' => ∃ (x9_1 : List ByteArray) (x10_1 : Int), v10 = .int .i64 x10_1 ∧ Aside0 (spec_l2One.l0 kq l0 a1 a2 l3 x9_1 x10_1 = some r) ∧ Aside0 (kq ≤ k) ∧ Aside0 (Kd.R Kd.string 9 w' w.heap.size (fun _ => True) v9 x9_1) ∧ Aside0 (Below w.heap.size w w'))
 case atStart => exact ⟨(y307), (0), rf_, H', ⟨Nat.le_refl _⟩, ⟨kR_ HO309⟩, ⟨bl_⟩⟩
 case round =>
  clear H'
  (try clear p2);(try clear c3);(try clear c5);(try clear c7)
  obtain ⟨x9_1, x10_1, rfl, HA, HK1, HO_9, HB⟩ := hrel
  cases gk with
  | zero => exact absurd HA.out (by simp [spec_l2One.l0])
  | succ k1 =>
   have H := HA.out
   clear HA
   simp only [spec_l2One.l0] at H
   replace H := iucd_ H; rcases H with ⟨c9b0, H⟩ | ⟨c9, H⟩
   · obtain rfl := Option.some.inj H
     go_wp2
     go_ret
     exact ⟨_, rfe_, kR_ HO_9, bl_⟩
   have c9b0 : decide (x10_1 < (l0.length : Int)) = true := decide_eq_true c9
   clear c9
   have HC10 := Aside0.mk H
   clear H
   go_upto_region 5 with (fail)
   go_cut [39] (fun v39 wc => ∃ (kq : Nat) (x39_9 : Bool), v39 = .bool x39_9 ∧ Aside0 (spec_l2One.j1 kq l0 a1 a2 l3 x9_1 x10_1 x39_9 = some r) ∧ Aside0 (kq ≤ k1) ∧ Aside0 (Kd.R Kd.string 9 wc w.heap.size (fun _ => True) u9 x9_1) ∧ Aside0 (Below w.heap.size w wc))
   case first =>
    have H := HC10.out
    clear HC10
    replace H := ind_ H; obtain ⟨c11b0, H⟩ := H
    (first | rw [c11b0] | (simp only [i64_w, i32_w]; rw [c11b0]) | skip)
    replace H := itcc_ H; rcases H with ⟨c12, H⟩ | ⟨c12, H⟩
    · have c12b0 : (((rd_T68 l0 x10_1).f1) != a2) = true := c12
      (try (have c12b1 : decide (((rd_T68 l0 x10_1).f1) = a2) = false := by simpa using c12))
      (try (have c12b2 : (((rd_T68 l0 x10_1).f1) == a2) = false := by simpa using c12))
      (try (have c12b3 : ¬ (((rd_T68 l0 x10_1).f1) = a2) := by simpa using c12))
      clear c12
      have H' := Aside0.mk H; clear H
      have p310 : 0 ≤ (x10_1 : Int) := od_
      have q310 : x10_1 < (l0.length : Int) := od_
      obtain ⟨ad310, e310, hx310_0, hx310_1, hx310_2, hx310_3, hx310_4⟩ := at_T68 HR0.out x10_1 p310 q310
      cases e310
      replace hx310_0 := hc_ HB hx310_0
      replace hx310_1 := hc_ HB hx310_1
      replace hx310_2 := hc_ HB hx310_2
      replace hx310_3 := hc_ HB hx310_3
      replace hx310_4 := hc_ HB hx310_4
      replace p310 := eq_true p310; replace q310 := eq_true q310
      go_wp2
      go_meet
      case rel => exact ⟨_, (true), rf_, H', ⟨by have := HK1.out; first | omega | exact Nat.le_refl _⟩, ⟨kR_ HO_9⟩, ⟨bl_⟩⟩
    have c12b0 : (((rd_T68 l0 x10_1).f1) != a2) = false := by simpa using c12
    (try (have c12b1 : decide (((rd_T68 l0 x10_1).f1) = a2) = true := by simpa using c12))
    (try (have c12b2 : (((rd_T68 l0 x10_1).f1) == a2) = true := by simpa using c12))
    clear c12
    replace H := Option.bind_eq_some_iff.mp H
    obtain ⟨t312, A130, H⟩ := H; try dsimp only at H
    have A13 := Aside0.mk A130
    clear A130
    have H' := Aside0.mk H; clear H
    have p310 : 0 ≤ (x10_1 : Int) := od_
    have q310 : x10_1 < (l0.length : Int) := od_
    obtain ⟨ad310, e310, hx310_0, hx310_1, hx310_2, hx310_3, hx310_4⟩ := at_T68 HR0.out x10_1 p310 q310
    cases e310
    replace hx310_0 := hc_ HB hx310_0
    replace hx310_1 := hc_ HB hx310_1
    replace hx310_2 := hc_ HB hx310_2
    replace hx310_3 := hc_ HB hx310_3
    replace hx310_4 := hc_ HB hx310_4
    replace p310 := eq_true p310; replace q310 := eq_true q310
    have p311 : 0 ≤ (x10_1 : Int) := od_
    have q311 : x10_1 < (l0.length : Int) := od_
    obtain ⟨ad311, e311, hx311_0, hx311_1, hx311_2, hx311_3, hx311_4⟩ := at_T68 HR0.out x10_1 p311 q311
    obtain rfl : ad310 = ad311 := (by injection e311)
    replace hx311_0 := hc_ HB hx311_0
    replace hx311_1 := hc_ HB hx311_1
    replace hx311_2 := hc_ HB hx311_2
    replace hx311_3 := hc_ HB hx311_3
    replace hx311_4 := hc_ HB hx311_4
    replace p311 := eq_true p311; replace q311 := eq_true q311
    go_wp2_with (first | (go_at_call 87; (with_reducible refine (spec_l2Has.calls k1 a1 ((rd_T68 l0 x10_1).f0) t312 _ A13.out).mono ?_); rintro e w' ⟨rfl, ⟨nd, rfl⟩⟩))
    go_meet
    case rel => exact ⟨_, (!t312), rf_, H', ⟨by have := HK1.out; first | omega | exact Nat.le_refl _⟩, ⟨kR_ HO_9⟩, ⟨bl_⟩⟩
   case rest =>
    clear HC10
    (try clear c1);(try clear p2);(try clear c3);(try clear p3);(try clear q3);(try clear hx3);(try clear c5);(try clear c7);(try clear c9);(try clear c9b0);(try clear c11);(try clear c11b0);(try clear c12);(try clear c12b0);(try clear c12b1);(try clear c12b2);(try clear hx310_0);(try clear hx310_1);(try clear hx310_2);(try clear hx310_3);(try clear hx310_4);(try clear hx311_0);(try clear hx311_1);(try clear hx311_2);(try clear hx311_3);(try clear hx311_4);(try clear p2);(try clear p310);(try clear p311);(try clear q310);(try clear q311)
    obtain ⟨kq, x39_9, rfl, HA, HJ9, HO_9, HB⟩ := hcut
    cases kq with
    | zero => exact absurd HA.out (by simp [spec_l2One.j1])
    | succ kj9 =>
     have H := HA.out
     clear HA
     simp only [spec_l2One.j1] at H
     replace H := itb_ H; rcases H with ⟨rfl, H⟩ | ⟨rfl, H⟩
     · have H' := Aside0.mk H
       clear H
       go_wp2
       go_roundg kj9
       case measure => have := HK1.out; have := HJ9.out; omega
       case rel => exact ⟨(x9_1), (wrap64 (x10_1 + 1)), rf_, H', ⟨by have := HK1.out; have := HJ9.out; omega⟩, ⟨kR_ HO_9⟩, ⟨bl_⟩⟩
     have H' := Aside0.mk H; clear H
     go_wp2
     go_loopg [9, 11] kj9 (fun kq v9 v11 w' => ∃ (x9_3 : List ByteArray) (x11_3 : Int), v11 = .int .i64 x11_3 ∧ Aside0 (spec_l2One.l1 kq l0 a1 a2 l3 x9_3 x10_1 x11_3 = some r) ∧ Aside0 (kq ≤ kj9) ∧ Aside0 (Kd.R Kd.string 9 w' w.heap.size (fun _ => True) v9 x9_3) ∧ Aside0 (Below w.heap.size w w'))
     case atStart => exact ⟨(x9_1), (0), rf_, H', ⟨Nat.le_refl _⟩, ⟨kR_ HO_9⟩, ⟨bl_⟩⟩
     case round =>
      clear H'
      (try clear c1);(try clear p2);(try clear c3);(try clear p3);(try clear q3);(try clear hx3);(try clear c5);(try clear p6);(try clear c7);(try clear c9);(try clear c9b0);(try clear c11);(try clear c11b0);(try clear c12);(try clear c12b0);(try clear c12b1);(try clear c12b2);(try clear c14);(try clear hx310_0);(try clear hx310_1);(try clear hx310_2);(try clear hx310_3);(try clear hx310_4);(try clear hx311_0);(try clear hx311_1);(try clear hx311_2);(try clear hx311_3);(try clear hx311_4);(try clear p2);(try clear p3);(try clear p310);(try clear p311);(try clear q3);(try clear q310);(try clear q311)
      obtain ⟨x9_3, x11_3, rfl, HA, HK3, HO_9, HB⟩ := hrel
      cases gk with
      | zero => exact absurd HA.out (by simp [spec_l2One.l1])
      | succ k3 =>
       have H := HA.out
       clear HA
       simp only [spec_l2One.l1] at H
       replace H := iudd_ H; rcases H with ⟨c15b0, H⟩ | ⟨c15b0, H⟩
       · have H' := Aside0.mk H
         clear H
         go_wp2
         go_roundg k3
         case measure => have := HK1.out; have := HJ9.out; have := HK3.out; omega
         case rel => exact ⟨(x9_3), (wrap64 (x10_1 + 1)), rf_, H', ⟨by have := HK1.out; have := HJ9.out; have := HK3.out; omega⟩, ⟨kR_ HO_9⟩, ⟨bl_⟩⟩
       replace H := ind_ H; obtain ⟨c16b0, H⟩ := H
       replace H := ind_ H; obtain ⟨c17b0, H⟩ := H
       replace H := ind_ H; obtain ⟨c18b0, H⟩ := H
       replace H := Option.bind_eq_some_iff.mp H
       obtain ⟨⟨t315, t316⟩, A190, H⟩ := H; try dsimp only at H
       have A19 := Aside0.mk A190
       clear A190
       replace H := iub_ H; rcases H with ⟨rfl, H⟩ | ⟨rfl, H⟩
       · have H' := Aside0.mk H
         clear H
         try go_wp2
         replace HO_9 := Aside0.mk (Kd.R_drew HO_9.out)
         replace HB := Aside0.mk (below_drew1 HB.out)
         have p313 : 0 ≤ (x10_1 : Int) := od_
         have q313 : x10_1 < (l0.length : Int) := od_
         obtain ⟨ad313, e313, hx313_0, hx313_1, hx313_2, hx313_3, hx313_4⟩ := at_T68 HR0.out x10_1 p313 q313
         have hw313_4 := hx313_4
         have hw313_3 := hx313_3
         have hw313_2 := hx313_2
         have hw313_1 := hx313_1
         have hw313_0 := hx313_0
         cases e313
         replace hx313_0 := hc_ HB hx313_0
         replace hx313_1 := hc_ HB hx313_1
         replace hx313_2 := hc_ HB hx313_2
         replace hx313_3 := hc_ HB hx313_3
         replace hx313_4 := hc_ HB hx313_4
         replace p313 := eq_true p313; replace q313 := eq_true q313
         have p314 : 0 ≤ (x11_3 : Int) := od_
         have q314 : x11_3 < (l3.length : Int) := od_
         obtain ⟨ad314, e314, hx314_0⟩ := Kd.at_string HR3.out x11_3 p314 q314
         have hw314_0 := hx314_0
         cases e314
         replace hx314_0 := hc_ HB hx314_0
         replace p314 := eq_true p314; replace q314 := eq_true q314
         refine start_ (n := 14) (S := fun w' => w'.cell? (ad313.add ((x10_1).toNat * 5)) = some (.string ((rd_T68 l0 x10_1).f0)) ∧ w'.cell? ⟨(ad313.add ((x10_1).toNat * 5)).block, (ad313.add ((x10_1).toNat * 5)).off + 1, none⟩ = some (.bool ((rd_T68 l0 x10_1).f1)) ∧ w'.cell? ⟨(ad313.add ((x10_1).toNat * 5)).block, (ad313.add ((x10_1).toNat * 5)).off + 2, none⟩ = some (.string ((rd_T68 l0 x10_1).f2)) ∧ w'.cell? ⟨(ad313.add ((x10_1).toNat * 5)).block, (ad313.add ((x10_1).toNat * 5)).off + 3, none⟩ = some (.string ((rd_T68 l0 x10_1).f3)) ∧ w'.cell? ⟨(ad313.add ((x10_1).toNat * 5)).block, (ad313.add ((x10_1).toNat * 5)).off + 4, none⟩ = some (.string ((rd_T68 l0 x10_1).f4)) ∧ w'.cell? (ad314.add (x11_3).toNat) = some (.string (rdOf ByteArray.empty l3 x11_3))) (ds := []) (bm 14 0) (by kernel_rfl) rfl rfl ⟨((HB.out.cell (World.block_lt_of_cell? w _ hw313_0)).trans hw313_0), ((HB.out.cell (World.block_lt_of_cell? w _ hw313_1)).trans hw313_1), ((HB.out.cell (World.block_lt_of_cell? w _ hw313_2)).trans hw313_2), ((HB.out.cell (World.block_lt_of_cell? w _ hw313_3)).trans hw313_3), ((HB.out.cell (World.block_lt_of_cell? w _ hw313_4)).trans hw313_4), ((HB.out.cell (World.block_lt_of_cell? w _ hw314_0)).trans hw314_0)⟩ (fun hHeld => ?_); refine with_tabW spec_l2One.tab9 spec_l2One.bits9 (fun HT_ HW_ => ?_)
         generalize wr.drew = w26 at HO_9 HB hx313_0 hx313_1 hx313_2 hx313_3 hx313_4 hx314_0 hHeld ⊢
         refine sp_ 0 (some 47) (bm 14 1) HT_ (h := ?_)
         refine sp_ 1 (some 48) (bm 14 3) HT_ (h := ?_)
         refine sp_ 2 (some 49) (bm 14 7) HT_ (h := ?_)
         refine sp_ 4 (some 51) (bm 14 23) HT_ (h := ?_)
         refine sp_ 5 (some 52) (bm 14 55) HT_ (h := ?_)
         refine sp_ 6 (some 53) (bm 14 119) HT_ (h := ?_)
         refine sr_ 3 (some 50) (bm 14 127) HT_ HW_ hHeld (h := ?_)
         refine sr_ 7 (some 54) (bm 14 255) HT_ HW_ hHeld (h := ?_)
         refine sn_ 8 (some 55) (bm 14 511) HT_ (fun K hK => ?_)
         refine goes_ Try.func88 (by kernel_rfl) rfl #[.agg #[.string ((rd_T68 l0 x10_1).f0), .bool ((rd_T68 l0 x10_1).f1), .string ((rd_T68 l0 x10_1).f2), .string ((rd_T68 l0 x10_1).f3), .string ((rd_T68 l0 x10_1).f4)], .string (rdOf ByteArray.empty l3 x11_3)] (by rfl) rfl rfl (by (try simp only [List.map_toArray, List.map_cons, List.map_nil]); first | done | rfl | (simp only [List.length_drop, List.length_take]; rfl)) ?_
         with_reducible refine (spec_l2Do.calls k3 ((rd_T68 l0 x10_1).f0) ((rd_T68 l0 x10_1).f1) ((rd_T68 l0 x10_1).f2) ((rd_T68 l0 x10_1).f3) ((rd_T68 l0 x10_1).f4) (rdOf ByteArray.empty l3 x11_3) t315 false _ A19.out).mono ?_
         rintro e w27 ⟨rfl, hb⟩
         refine ⟨_, rfl, ?_⟩
         replace HO_9 := Aside0.mk (Kd.R_below (kR_ HO_9) hb)
         replace HB := Aside0.mk (below_step (bl_) hb)
         (try clear hb)
         (try clear hb2)
         (try clear hk)
         (try clear hi)
         refine hK.out _ _ ⟨((HB.out.cell (World.block_lt_of_cell? w _ hw313_0)).trans hw313_0), ((HB.out.cell (World.block_lt_of_cell? w _ hw313_1)).trans hw313_1), ((HB.out.cell (World.block_lt_of_cell? w _ hw313_2)).trans hw313_2), ((HB.out.cell (World.block_lt_of_cell? w _ hw313_3)).trans hw313_3), ((HB.out.cell (World.block_lt_of_cell? w _ hw313_4)).trans hw313_4), ((HB.out.cell (World.block_lt_of_cell? w _ hw314_0)).trans hw314_0)⟩ (fun hHeld => ?_)
         clear hK K
         refine nm_ ?_
         refine sp_ 9 (some 46) (bm 14 1023) HT_ (h := ?_)
         refine sp_ 10 (some 56) (bm 14 2047) HT_ (h := ?_)
         refine sp_ 11 (some 57) (bm 14 4095) HT_ (h := ?_)
         refine sp_ 12 (some 12) (bm 14 8191) HT_ (h := ?_)
         refine sp_ 13 (some 13) (bm 14 16383) HT_ (h := ?_)
         refine done_ (done_of HT_.out (by kernel_rfl)) ?_
         try go_wp2
         go_roundg k3
         case measure => have := HK1.out; have := HJ9.out; have := HK3.out; omega
         case rel => exact ⟨(x9_3), (wrap64 (x11_3 + 1)), rf_, H', ⟨by have := HK1.out; have := HJ9.out; have := HK3.out; omega⟩, ⟨kR_ HO_9⟩, ⟨bl_⟩⟩
       replace H := Option.bind_eq_some_iff.mp H
       obtain ⟨t317, A210, H⟩ := H; try dsimp only at H
       have A21 := Aside0.mk A210
       clear A210
       have H' := Aside0.mk H; clear H
       try go_wp2
       replace HO_9 := Aside0.mk (Kd.R_drew HO_9.out)
       replace HB := Aside0.mk (below_drew1 HB.out)
       have p313 : 0 ≤ (x10_1 : Int) := od_
       have q313 : x10_1 < (l0.length : Int) := od_
       obtain ⟨ad313, e313, hx313_0, hx313_1, hx313_2, hx313_3, hx313_4⟩ := at_T68 HR0.out x10_1 p313 q313
       have hw313_4 := hx313_4
       have hw313_3 := hx313_3
       have hw313_2 := hx313_2
       have hw313_1 := hx313_1
       have hw313_0 := hx313_0
       cases e313
       replace hx313_0 := hc_ HB hx313_0
       replace hx313_1 := hc_ HB hx313_1
       replace hx313_2 := hc_ HB hx313_2
       replace hx313_3 := hc_ HB hx313_3
       replace hx313_4 := hc_ HB hx313_4
       replace p313 := eq_true p313; replace q313 := eq_true q313
       have p314 : 0 ≤ (x11_3 : Int) := od_
       have q314 : x11_3 < (l3.length : Int) := od_
       obtain ⟨ad314, e314, hx314_0⟩ := Kd.at_string HR3.out x11_3 p314 q314
       have hw314_0 := hx314_0
       cases e314
       replace hx314_0 := hc_ HB hx314_0
       replace p314 := eq_true p314; replace q314 := eq_true q314
       refine start_ (n := 14) (S := fun w' => w'.cell? (ad313.add ((x10_1).toNat * 5)) = some (.string ((rd_T68 l0 x10_1).f0)) ∧ w'.cell? ⟨(ad313.add ((x10_1).toNat * 5)).block, (ad313.add ((x10_1).toNat * 5)).off + 1, none⟩ = some (.bool ((rd_T68 l0 x10_1).f1)) ∧ w'.cell? ⟨(ad313.add ((x10_1).toNat * 5)).block, (ad313.add ((x10_1).toNat * 5)).off + 2, none⟩ = some (.string ((rd_T68 l0 x10_1).f2)) ∧ w'.cell? ⟨(ad313.add ((x10_1).toNat * 5)).block, (ad313.add ((x10_1).toNat * 5)).off + 3, none⟩ = some (.string ((rd_T68 l0 x10_1).f3)) ∧ w'.cell? ⟨(ad313.add ((x10_1).toNat * 5)).block, (ad313.add ((x10_1).toNat * 5)).off + 4, none⟩ = some (.string ((rd_T68 l0 x10_1).f4)) ∧ w'.cell? (ad314.add (x11_3).toNat) = some (.string (rdOf ByteArray.empty l3 x11_3))) (ds := []) (bm 14 0) (by kernel_rfl) rfl rfl ⟨((HB.out.cell (World.block_lt_of_cell? w _ hw313_0)).trans hw313_0), ((HB.out.cell (World.block_lt_of_cell? w _ hw313_1)).trans hw313_1), ((HB.out.cell (World.block_lt_of_cell? w _ hw313_2)).trans hw313_2), ((HB.out.cell (World.block_lt_of_cell? w _ hw313_3)).trans hw313_3), ((HB.out.cell (World.block_lt_of_cell? w _ hw313_4)).trans hw313_4), ((HB.out.cell (World.block_lt_of_cell? w _ hw314_0)).trans hw314_0)⟩ (fun hHeld => ?_); refine with_tabW spec_l2One.tab9 spec_l2One.bits9 (fun HT_ HW_ => ?_)
       generalize wr.drew = w22 at HO_9 HB hx313_0 hx313_1 hx313_2 hx313_3 hx313_4 hx314_0 hHeld ⊢
       refine sp_ 0 (some 47) (bm 14 1) HT_ (h := ?_)
       refine sp_ 1 (some 48) (bm 14 3) HT_ (h := ?_)
       refine sp_ 2 (some 49) (bm 14 7) HT_ (h := ?_)
       refine sp_ 4 (some 51) (bm 14 23) HT_ (h := ?_)
       refine sp_ 5 (some 52) (bm 14 55) HT_ (h := ?_)
       refine sp_ 6 (some 53) (bm 14 119) HT_ (h := ?_)
       refine sr_ 3 (some 50) (bm 14 127) HT_ HW_ hHeld (h := ?_)
       refine sr_ 7 (some 54) (bm 14 255) HT_ HW_ hHeld (h := ?_)
       refine sn_ 8 (some 55) (bm 14 511) HT_ (fun K hK => ?_)
       refine goes_ Try.func88 (by kernel_rfl) rfl #[.agg #[.string ((rd_T68 l0 x10_1).f0), .bool ((rd_T68 l0 x10_1).f1), .string ((rd_T68 l0 x10_1).f2), .string ((rd_T68 l0 x10_1).f3), .string ((rd_T68 l0 x10_1).f4)], .string (rdOf ByteArray.empty l3 x11_3)] (by rfl) rfl rfl (by (try simp only [List.map_toArray, List.map_cons, List.map_nil]); first | done | rfl | (simp only [List.length_drop, List.length_take]; rfl)) ?_
       with_reducible refine (spec_l2Do.calls k3 ((rd_T68 l0 x10_1).f0) ((rd_T68 l0 x10_1).f1) ((rd_T68 l0 x10_1).f2) ((rd_T68 l0 x10_1).f3) ((rd_T68 l0 x10_1).f4) (rdOf ByteArray.empty l3 x11_3) t315 true _ A19.out).mono ?_
       rintro e w23 ⟨rfl, hb⟩
       refine ⟨_, rfl, ?_⟩
       replace HO_9 := Aside0.mk (Kd.R_below (kR_ HO_9) hb)
       replace HB := Aside0.mk (below_step (bl_) hb)
       (try clear hb)
       (try clear hb2)
       (try clear hk)
       (try clear hi)
       refine hK.out _ _ ⟨((HB.out.cell (World.block_lt_of_cell? w _ hw313_0)).trans hw313_0), ((HB.out.cell (World.block_lt_of_cell? w _ hw313_1)).trans hw313_1), ((HB.out.cell (World.block_lt_of_cell? w _ hw313_2)).trans hw313_2), ((HB.out.cell (World.block_lt_of_cell? w _ hw313_3)).trans hw313_3), ((HB.out.cell (World.block_lt_of_cell? w _ hw313_4)).trans hw313_4), ((HB.out.cell (World.block_lt_of_cell? w _ hw314_0)).trans hw314_0)⟩ (fun hHeld => ?_)
       clear hK K
       refine nm_ ?_
       refine sp_ 9 (some 46) (bm 14 1023) HT_ (h := ?_)
       refine sp_ 10 (some 56) (bm 14 2047) HT_ (h := ?_)
       refine sp_ 11 (some 57) (bm 14 4095) HT_ (h := ?_)
       refine sp_ 12 (some 12) (bm 14 8191) HT_ (h := ?_)
       refine sp_ 13 (some 13) (bm 14 16383) HT_ (h := ?_)
       refine done_ (done_of HT_.out (by kernel_rfl)) ?_
       obtain ⟨Ao24, co24, eo24⟩ := Kd.R_slice HO_9.out
       subst eo24
       try go_wp2_with (first | ((with_reducible refine gate_callee (f := 54) rfl ?_); refine gl_ 61 Try.func54 #[.slice Ao24 x9_3.length co24, .string t315] ?_; (with_reducible refine (spec_l1Put.calls k3 (fun k_ => some k_ = (.slice Ao24 x9_3.length co24 : Value).ownBlock) (.slice Ao24 x9_3.length co24) x9_3 t315 t317 w _ ?side1 ?side2 A21.out).mono ?_); (case side1 => exact bs_); (case side2 => exact Kd.R_tight rfl HO_9.out); rintro e w25 ⟨v318, rfl, ho0, hb, hkp⟩; refine ⟨_, rfl, ?_⟩; have HO319 := Aside0.mk (Kd.R_mono (ok' := fun k_ => True) ho0 (fun k_ hk_ => trivial)); replace HB := Aside0.mk (hb); clear HO_9; (try clear hb); (try clear hkp); (try clear ho0)))
       go_roundg k3
       case measure => have := HK1.out; have := HJ9.out; have := HK3.out; omega
       case rel => exact ⟨(t317), (wrap64 (x11_3 + 1)), rf_, H', ⟨by have := HK1.out; have := HJ9.out; have := HK3.out; omega⟩, ⟨kR_ HO319⟩, ⟨bl_⟩⟩

end Go.Proofs.Ytbopiacjioedeaa.P
