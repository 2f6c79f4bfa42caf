-- Written by a program of this session (wip/gen/gen.py) out of Lean's print of the loaded program; Lean checks it.
import Derived.Test.YtbopiacjioedeaaP0
import Derived.Test.YtbopiacjioedeaaSq2
import Derived.Test.YtbopiacjioedeaaP1
namespace Go.Proofs.Ytbopiacjioedeaa.P
open Go.RowKit Go.Proofs.YtbopiacjioedeaaW.PrintWords Go.Proofs.YtbopiacjioedeaaW.PrintLast Go.Proofs.YtbopiacjioedeaaW.PrintMore
attribute [local go_sem] max2_int min2_int max_two min_two max_three min_three max_four min_four IntKind.wrap_u8 IntKind.wrap_u32 w64_256 w64_u32
set_option maxHeartbeats 8000000
set_option maxRecDepth 100000
set_option linter.unusedVariables false
set_option linter.unusedSimpArgs false

attribute [local go_sem high] eqA68
/-! ### impl_lower: function 46 -/
def impl_lower.l0 : Nat → ByteArray → Int → Int → Option (Bool)
 | 0, _, _, _ => none
 | k + 1, x0, x5, x6 => if x6 < x5 then (if 0 ≤ x6 then (if x6 < (x0.size : Int) then (if (bt x0 x6) < 97 then (some false) else (if (bt x0 x6) > 122 then (some false) else (impl_lower.l0 k x0 x5 (wrap64 (x6 + 1))))) else (none)) else (none)) else (some true)
def impl_lower.f (k : Nat) (a0 : ByteArray) : Option (Bool) := impl_lower.l0 k a0 (a0.size : Int) 0
theorem impl_lower.mono_l : ∀ k, (∀ y0 y1 y2, LeO (impl_lower.l0 k y0 y1 y2) (impl_lower.l0 (k + 1) y0 y1 y2))
 | 0 => fun _ _ _ r h => by simp [impl_lower.l0] at h
 | k + 1 => by
  have ih0 := impl_lower.mono_l k
  · intro y0 y1 y2
    unfold impl_lower.l0
    exact mn_
theorem impl_lower.mono : ∀ a0 k, LeO (impl_lower.f k a0) (impl_lower.f (k + 1) a0) := by
 intro a0 k
 have ih0 := impl_lower.mono_l k
 unfold impl_lower.f
 exact mn_
theorem impl_lower.calls (k : Nat) (a0 : ByteArray) (r : Bool) (w : World) (h : impl_lower.f k a0 = some r) :
 Calls Try.prog 46 #[.string a0] w fun e w' => e = .returned (.bool r) ∧ Drawn0 w w' := by
 unfold impl_lower.f at h; have H := h; clear h
 have H' := Aside0.mk H; clear H
 go_enter Try.func46, Try.ntmps46
 go_wp2
 go_loopg [6] k (fun kq v6 w' => ∃ (x6_1 : Int), v6 = .int .i64 x6_1 ∧ Aside0 (impl_lower.l0 kq a0 (a0.size : Int) x6_1 = some r) ∧ Aside0 (kq ≤ k) ∧ Drawn0 w w')
 case atStart => exact ⟨(0), rf_, H', ⟨Nat.le_refl _⟩, dr_⟩
 case round =>
  clear H'
  obtain ⟨x6_1, rfl, HA, HK1, ⟨m1, rfl⟩⟩ := hrel
  cases gk with
  | zero => exact absurd HA.out (by simp [impl_lower.l0])
  | succ k1 =>
   have H := HA.out
   clear HA
   simp only [impl_lower.l0] at H
   replace H := iudd_ H; rcases H with ⟨c2b0, H⟩ | ⟨c2b0, H⟩
   · obtain rfl := Option.some.inj H
     go_wp2
     go_ret
     exact ⟨rf_, dr_⟩
   replace H := ind_ H; obtain ⟨c3b0, H⟩ := H
   replace H := ind_ H; obtain ⟨c4b0, H⟩ := H
   replace H := itdd_ H; rcases H with ⟨c6b0, H⟩ | ⟨c6b0, H⟩
   · obtain rfl := Option.some.inj H
     have p5 : 0 ≤ (x6_1 : Int) := od_
     have q5 : x6_1 < (a0.size : Int) := od_
     have hx5 := bt_at a0 x6_1
     replace p5 := eq_true p5; replace q5 := eq_true q5
     go_wp2
     go_ret
     exact ⟨rf_, dr_⟩
   replace H := itcc_ H; rcases H with ⟨c8, H⟩ | ⟨c8, H⟩
   · have c8b0 : decide (122 < (bt a0 x6_1)) = true := decide_eq_true c8
     clear c8
     obtain rfl := Option.some.inj H
     have p5 : 0 ≤ (x6_1 : Int) := od_
     have q5 : x6_1 < (a0.size : Int) := od_
     have hx5 := bt_at a0 x6_1
     replace p5 := eq_true p5; replace q5 := eq_true q5
     have p7 : 0 ≤ (x6_1 : Int) := od_
     have q7 : x6_1 < (a0.size : Int) := od_
     have hx7 := bt_at a0 x6_1
     replace p7 := eq_true p7; replace q7 := eq_true q7
     go_wp2
     go_ret
     exact ⟨rf_, dr_⟩
   have c8b0 : decide (122 < (bt a0 x6_1)) = false := decide_eq_false c8
   clear c8
   have H' := Aside0.mk H; clear H
   have p5 : 0 ≤ (x6_1 : Int) := od_
   have q5 : x6_1 < (a0.size : Int) := od_
   have hx5 := bt_at a0 x6_1
   replace p5 := eq_true p5; replace q5 := eq_true q5
   have p7 : 0 ≤ (x6_1 : Int) := od_
   have q7 : x6_1 < (a0.size : Int) := od_
   have hx7 := bt_at a0 x6_1
   replace p7 := eq_true p7; replace q7 := eq_true q7
   go_wp2
   go_roundg k1
   case measure => have := HK1.out; omega
   case rel => exact ⟨(wrap64 (x6_1 + 1)), rf_, H', ⟨by have := HK1.out; omega⟩, dr_⟩

/-! ### impl_upper: function 78 -/
def impl_upper.f (a0 : Int) : Option (Bool) := if a0 ≥ 65 then (some (decide (a0 ≤ 90))) else (some false)
theorem impl_upper.calls (a0 : Int) (r : Bool) (w : World) (h : impl_upper.f a0 = some r) :
 Calls Try.prog 78 #[.int .u8 a0] w fun e w' => e = .returned (.bool r) ∧ Drawn0 w w' := by
 unfold impl_upper.f at h; have H := h; clear h
 replace H := itcc_ H; rcases H with ⟨c2, H⟩ | ⟨c2, H⟩
 · have c2b0 : decide (65 ≤ a0) = true := decide_eq_true c2
   clear c2
   obtain rfl := Option.some.inj H
   go_enter Try.func78, Try.ntmps78
   go_wp2
   go_ret
   exact ⟨rf_, dr_⟩
 have c2b0 : decide (65 ≤ a0) = false := decide_eq_false c2
 clear c2
 obtain rfl := Option.some.inj H
 go_enter Try.func78, Try.ntmps78
 go_wp2
 go_ret
 exact ⟨rf_, dr_⟩

/-! ### stringslite_HasPrefix: function 89 -/
def stringslite_HasPrefix.f (a0 : ByteArray) (a1 : ByteArray) : Option (Bool) := if (a0.size : Int) ≥ (a1.size : Int) then (if 0 ≤ (a1.size : Int) then (if (a1.size : Int) ≤ (a0.size : Int) then (some ((a0.extract 0 a1.size).toList == a1.toList)) else (none)) else (none)) else (some false)
theorem stringslite_HasPrefix.calls (a0 : ByteArray) (a1 : ByteArray) (r : Bool) (w : World) (h : stringslite_HasPrefix.f a0 a1 = some r) :
 Calls Try.prog 89 #[.string a0, .string a1] w fun e w' => e = .returned (.bool r) ∧ Drawn0 w w' := by
 unfold stringslite_HasPrefix.f at h; have H := h; clear h
 replace H := iucc_ H; rcases H with ⟨c3, H⟩ | ⟨c3, H⟩
 · have c3b0 : decide ((a1.size : Int) ≤ (a0.size : Int)) = false := decide_eq_false c3
   have c3b1 : decide (a1.size ≤ a0.size) = false := decide_eq_false (fun h => c3 (Int.ofNat_le.mpr h))
   clear c3
   obtain rfl := Option.some.inj H
   go_enter Try.func89, Try.ntmps89
   go_wp2
   go_ret
   exact ⟨rf_, dr_⟩
 have c3b0 : decide ((a1.size : Int) ≤ (a0.size : Int)) = true := decide_eq_true c3
 have c3b1 : decide (a1.size ≤ a0.size) = true := decide_eq_true (Int.ofNat_le.mp c3)
 clear c3
 replace H := inc_ H; obtain ⟨c4, H⟩ := H
 have c4b0 := eq_true c4
 have c4b1 : decide (0 ≤ (a1.size : Int)) = true := decide_eq_true c4
 clear c4
 replace H := inc_ H; obtain ⟨c5, H⟩ := H
 have c5b0 := eq_true c5
 have c5b1 : decide ((a1.size : Int) ≤ (a0.size : Int)) = true := decide_eq_true c5
 clear c5
 obtain rfl := Option.some.inj H
 go_enter Try.func89, Try.ntmps89
 go_wp2
 go_ret
 exact ⟨rf_, dr_⟩

/-! ### strings_HasPrefix: function 79 -/
def strings_HasPrefix.f (a0 : ByteArray) (a1 : ByteArray) : Option (Bool) := (stringslite_HasPrefix.f a0 a1).bind fun t101 => (some t101)
theorem strings_HasPrefix.calls (a0 : ByteArray) (a1 : ByteArray) (r : Bool) (w : World) (h : strings_HasPrefix.f a0 a1 = some r) :
 Calls Try.prog 79 #[.string a0, .string a1] w fun e w' => e = .returned (.bool r) ∧ Drawn0 w w' := by
 unfold strings_HasPrefix.f at h; have H := h; clear h
 replace H := Option.bind_eq_some_iff.mp H
 obtain ⟨t101, A30, H⟩ := H; try dsimp only at H
 have A3 := Aside0.mk A30
 clear A30
 obtain rfl := Option.some.inj H
 go_enter Try.func79, Try.ntmps79
 go_wp2_with (first | ((with_reducible refine gate_callee (f := 89) rfl ?_); refine gl_ 7 Try.func89 #[.string a0, .string a1] ?_; (with_reducible refine (stringslite_HasPrefix.calls a0 a1 t101 _ A3.out).mono ?_); rintro e w' ⟨rfl, ⟨nd, rfl⟩⟩; refine ⟨_, rfl, ?_⟩))
 go_ret
 exact ⟨rf_, dr_⟩

/-! ### stringslite_HasSuffix: function 90 -/
def stringslite_HasSuffix.f (a0 : ByteArray) (a1 : ByteArray) : Option (Bool) := if (a0.size : Int) ≥ (a1.size : Int) then (if 0 ≤ (wrap64 ((a0.size : Int) - (a1.size : Int))) then (if (wrap64 ((a0.size : Int) - (a1.size : Int))) ≤ (a0.size : Int) then (some ((a0.extract ((wrap64 ((a0.size : Int) - (a1.size : Int))) : Int).toNat a0.size).toList == a1.toList)) else (none)) else (none)) else (some false)
theorem stringslite_HasSuffix.calls (a0 : ByteArray) (a1 : ByteArray) (r : Bool) (w : World) (h : stringslite_HasSuffix.f a0 a1 = some r) :
 Calls Try.prog 90 #[.string a0, .string a1] w fun e w' => e = .returned (.bool r) ∧ Drawn0 w w' := by
 unfold stringslite_HasSuffix.f at h; have H := h; clear h
 replace H := iucc_ H; rcases H with ⟨c3, H⟩ | ⟨c3, H⟩
 · have c3b0 : decide ((a1.size : Int) ≤ (a0.size : Int)) = false := decide_eq_false c3
   have c3b1 : decide (a1.size ≤ a0.size) = false := decide_eq_false (fun h => c3 (Int.ofNat_le.mpr h))
   clear c3
   obtain rfl := Option.some.inj H
   go_enter Try.func90, Try.ntmps90
   go_wp2
   go_ret
   exact ⟨rf_, dr_⟩
 have c3b0 : decide ((a1.size : Int) ≤ (a0.size : Int)) = true := decide_eq_true c3
 have c3b1 : decide (a1.size ≤ a0.size) = true := decide_eq_true (Int.ofNat_le.mp c3)
 clear c3
 obtain ⟨ji4, hji4⟩ : ∃ j_ : Int, (wrap64 ((a0.size : Int) - (a1.size : Int))) = j_ := ⟨_, rfl⟩
 replace H : (if 0 ≤ (ji4) then (if (ji4) ≤ (a0.size : Int) then (some ((a0.extract ((ji4) : Int).toNat a0.size).toList == a1.toList)) else (none)) else (none)) = some r := by first | (rw [hji4] at H; exact H) | (simp only [hji4] at H ⊢; exact H)
 have hji4w : (IntKind.i64.wrap ((a0.size : Int) - (a1.size : Int))) = ji4 := (i64_w _).trans hji4
 replace H := inc_ H; obtain ⟨c5, H⟩ := H
 have c5b0 := eq_true c5
 have c5b1 : decide (0 ≤ (ji4)) = true := decide_eq_true c5
 clear c5
 replace H := inc_ H; obtain ⟨c6, H⟩ := H
 have c6b0 := eq_true c6
 have c6b1 : decide ((ji4) ≤ (a0.size : Int)) = true := decide_eq_true c6
 clear c6
 obtain rfl := Option.some.inj H
 go_enter Try.func90, Try.ntmps90
 go_wp2
 go_ret
 exact ⟨by first | rfl | (simp; done) | (simp only [← hji4] <;> (first | rfl | simp)) | (simp [*]; done), dr_⟩

/-! ### strings_HasSuffix: function 80 -/
def strings_HasSuffix.f (a0 : ByteArray) (a1 : ByteArray) : Option (Bool) := (stringslite_HasSuffix.f a0 a1).bind fun t102 => (some t102)
theorem strings_HasSuffix.calls (a0 : ByteArray) (a1 : ByteArray) (r : Bool) (w : World) (h : strings_HasSuffix.f a0 a1 = some r) :
 Calls Try.prog 80 #[.string a0, .string a1] w fun e w' => e = .returned (.bool r) ∧ Drawn0 w w' := by
 unfold strings_HasSuffix.f at h; have H := h; clear h
 replace H := Option.bind_eq_some_iff.mp H
 obtain ⟨t102, A30, H⟩ := H; try dsimp only at H
 have A3 := Aside0.mk A30
 clear A30
 obtain rfl := Option.some.inj H
 go_enter Try.func80, Try.ntmps80
 go_wp2_with (first | ((with_reducible refine gate_callee (f := 90) rfl ?_); refine gl_ 7 Try.func90 #[.string a0, .string a1] ?_; (with_reducible refine (stringslite_HasSuffix.calls a0 a1 t102 _ A3.out).mono ?_); rintro e w' ⟨rfl, ⟨nd, rfl⟩⟩; refine ⟨_, rfl, ?_⟩))
 go_ret
 exact ⟨rf_, dr_⟩

/-! ### impl_AffixOk: function 66 -/
mutual
def impl_AffixOk.j0 : Nat → Bool → ByteArray → Bool → ByteArray → ByteArray → ByteArray → Option (Bool)
 | 0, _, _, _, _, _, _ => none
 | k + 1, x15, x104000, x104001, x104002, x104003, x104004 => if x15 = true then (some false) else ((some (([x104002, x104003, x104004] : List ByteArray) : List ByteArray)).bind fun y105 => (impl_AffixOk.l0 k y105 (y105.length : Int) 0 x104000 x104001 x104002 x104003 x104004))
def impl_AffixOk.l0 : Nat → List ByteArray → Int → Int → ByteArray → Bool → ByteArray → ByteArray → ByteArray → Option (Bool)
 | 0, _, _, _, _, _, _, _, _ => none
 | k + 1, x22, x23, x24, x104000, x104001, x104002, x104003, x104004 => if x24 < x23 then (if 0 ≤ x24 then (if x24 < (x22.length : Int) then (if ((rdOf ByteArray.empty x22 x24).size : Int) > 4 then (some false) else ((impl_lower.f k (rdOf ByteArray.empty x22 x24)).bind fun t109 => (if t109 = true then (impl_AffixOk.l0 k x22 x23 (wrap64 (x24 + 1)) x104000 x104001 x104002 x104003 x104004) else (some false)))) else (none)) else (none)) else (if x104001 = true then ((strings_HasPrefix.f x104004 x104002).bind fun t110 => (some t110)) else ((strings_HasSuffix.f x104004 x104002).bind fun t111 => (some t111)))
end
def impl_AffixOk.f (k : Nat) (a0_0 : ByteArray) (a0_1 : Bool) (a0_2 : ByteArray) (a0_3 : ByteArray) (a0_4 : ByteArray) : Option (Bool) := if (a0_0.size : Int) = 1 then (if 0 < (a0_0.size : Int) then ((impl_upper.f (bt a0_0 0)).bind fun t104 => (impl_AffixOk.j0 k (!t104) a0_0 a0_1 a0_2 a0_3 a0_4)) else (none)) else (impl_AffixOk.j0 k true a0_0 a0_1 a0_2 a0_3 a0_4)
theorem impl_AffixOk.mono_l : ∀ k, (∀ y0 y1 y2 y3 y4 y5, LeO (impl_AffixOk.j0 k y0 y1 y2 y3 y4 y5) (impl_AffixOk.j0 (k + 1) y0 y1 y2 y3 y4 y5)) ∧ (∀ y0 y1 y2 y3 y4 y5 y6 y7, LeO (impl_AffixOk.l0 k y0 y1 y2 y3 y4 y5 y6 y7) (impl_AffixOk.l0 (k + 1) y0 y1 y2 y3 y4 y5 y6 y7))
 | 0 => ⟨fun _ _ _ _ _ _ r h => by simp [impl_AffixOk.j0] at h, fun _ _ _ _ _ _ _ _ r h => by simp [impl_AffixOk.l0] at h⟩
 | k + 1 => by
  obtain ⟨ih0, ih1⟩ := impl_AffixOk.mono_l k
  refine ⟨?_, ?_⟩
  · intro y0 y1 y2 y3 y4 y5
    unfold impl_AffixOk.j0
    have m0 := @impl_lower.mono
    exact mn_
  · intro y0 y1 y2 y3 y4 y5 y6 y7
    unfold impl_AffixOk.l0
    have m0 := @impl_lower.mono
    exact mn_
theorem impl_AffixOk.mono : ∀ a0 a1 a2 a3 a4 k, LeO (impl_AffixOk.f k a0 a1 a2 a3 a4) (impl_AffixOk.f (k + 1) a0 a1 a2 a3 a4) := by
 intro a0 a1 a2 a3 a4 k
 obtain ⟨ih0, ih1⟩ := impl_AffixOk.mono_l k
 unfold impl_AffixOk.f
 have m0 := @impl_lower.mono
 exact mn_
theorem impl_AffixOk.calls (k : Nat) (a0_0 : ByteArray) (a0_1 : Bool) (a0_2 : ByteArray) (a0_3 : ByteArray) (a0_4 : ByteArray) (r : Bool) (w : World) (h : impl_AffixOk.f k a0_0 a0_1 a0_2 a0_3 a0_4 = some r) :
 Calls Try.prog 66 #[.agg #[.string a0_0, .bool a0_1, .string a0_2, .string a0_3, .string a0_4]] w fun e w' => e = .returned (.bool r) ∧ Below w.heap.size w w' := by
 have hu68 := Try.underlying68
 have HB := Aside0.mk (Below.refl w.heap.size w)
 unfold impl_AffixOk.f at h; have H := h; clear h
 have HC2 := Aside0.mk H
 clear H
 go_enter Try.func66, Try.ntmps66
 go_upto_region 1 with (first | ((with_reducible refine gate_dst (N := 1) rfl ?_); refine be_ 1 68 #[.string a0_0, .bool a0_1, .string a0_2, .string a0_3, .string a0_4] ?_; intro gb103 hg w3 hbox hb; have BK103 := Aside0.mk (hbox); have GW103 := Aside0.mk ((gs_ hg : w.heap.size ≤ gb103)); have GE103 := Aside0.mk ((gs_ hg : w.heap.size ≤ gb103)); replace HB := Aside0.mk (below_step (bl_) hb); clear hb hbox hg))
 (try simp only [Act.put, List.setIfInBounds_toArray, List.set_cons_zero, List.set_cons_succ])
 go_cut [15] (fun v15 wc => ∃ (kq : Nat) (x15_1 : Bool), v15 = .bool x15_1 ∧ Aside0 (impl_AffixOk.j0 kq x15_1 a0_0 a0_1 a0_2 a0_3 a0_4 = some r) ∧ Aside0 (kq ≤ k) ∧ Aside0 (wc.heap[gb103]? = some (.cells #[.string a0_0, .bool a0_1, .string a0_2, .string a0_3, .string a0_4] 68 (0, 0))) ∧ Aside0 (Below w.heap.size w wc))
 case first =>
  have H := HC2.out
  clear HC2
  replace H := iucc_ H; rcases H with ⟨c4, H⟩ | ⟨c4, H⟩
  · have c4b0 : ((a0_0.size : Int) == 1) = false := beq_eq_false_iff_ne.mpr c4
    have c4b1 : ((a0_0.size : Int) != 1) = true := bne_iff_ne.mpr c4
    (first | rw [c4b0] | (simp only [i64_w, i32_w]; rw [c4b0]) | skip)
    have H' := Aside0.mk H; clear H
    have hcz9_0 := bc0_ BK103
    have hcz9_1 := bc1_ BK103
    have hcz9_2 := bc2_ BK103
    have hcz9_3 := bc3_ BK103
    have hcz9_4 := bc4_ BK103
    have hfz9_0 := blk_frozen BK103.out 0
    have hfz9_1 := blk_frozen BK103.out 1
    have hfz9_2 := blk_frozen BK103.out 2
    have hfz9_3 := blk_frozen BK103.out 3
    have hfz9_4 := blk_frozen BK103.out 4
    go_wp2
    go_meet
    case rel => exact ⟨_, (true), rf_, H', ⟨by first | omega | exact Nat.le_refl _⟩, ⟨by (with_reducible repeat (first | refine blk_drewN ?_ _ | refine blk_drew ?_ | refine blk_alloc ?_ _)); exact BK103.out⟩, ⟨bl_⟩⟩
  have c4b0 : ((a0_0.size : Int) == 1) = true := beq_iff_eq.mpr c4
  have c4b1 : ((a0_0.size : Int) != 1) = false := bne_eq_false_iff_eq.mpr c4
  clear c4
  (first | rw [c4b0] | (simp only [i64_w, i32_w]; rw [c4b0]) | skip)
  replace H := inc_ H; obtain ⟨c5, H⟩ := H
  have c5b0 : decide (0 < (a0_0.size : Int)) = true := decide_eq_true c5
  have c5b1 : decide (0 < a0_0.size) = true := decide_eq_true (by omega)
  clear c5
  replace H := Option.bind_eq_some_iff.mp H
  obtain ⟨t104, A70, H⟩ := H; try dsimp only at H
  have A7 := Aside0.mk A70
  clear A70
  have H' := Aside0.mk H; clear H
  have hcz8_0 := bc0_ BK103
  have hcz8_1 := bc1_ BK103
  have hcz8_2 := bc2_ BK103
  have hcz8_3 := bc3_ BK103
  have hcz8_4 := bc4_ BK103
  have hfz8_0 := blk_frozen BK103.out 0
  have hfz8_1 := blk_frozen BK103.out 1
  have hfz8_2 := blk_frozen BK103.out 2
  have hfz8_3 := blk_frozen BK103.out 3
  have hfz8_4 := blk_frozen BK103.out 4
  have p6 : 0 ≤ (0 : Int) := (by omega)
  have q6 : 0 < a0_0.size := (by have : (0 : Int) < (a0_0.size : Int) := od_; omega)
  have hx6 : ∀ h : 0 < a0_0.size, ((a0_0[0]'h).toNat : Int) = bt a0_0 0 := bt_at a0_0 0
  clear p6
  have qi6 : (0 < (a0_0.size : Int)) = True := eq_true (od_)
  replace q6 := eq_true q6
  go_wp2_with (first | (go_at_call 78; (with_reducible refine (impl_upper.calls (bt a0_0 0) t104 _ A7.out).mono ?_); rintro e w' ⟨rfl, ⟨nd, rfl⟩⟩))
  go_meet
  case rel => exact ⟨_, (!t104), rf_, H', ⟨by first | omega | exact Nat.le_refl _⟩, ⟨by (with_reducible repeat (first | refine blk_drewN ?_ _ | refine blk_drew ?_ | refine blk_alloc ?_ _)); exact BK103.out⟩, ⟨bl_⟩⟩
 case rest =>
  clear HC2
  (try clear p2);(try clear c4);(try clear c4b0);(try clear c4b1);(try clear c5);(try clear c5b0);(try clear c5b1);(try clear c6);(try clear p6);(try clear q6);(try clear hx6);(try clear qi6);(try clear hcz8_0);(try clear hcz8_1);(try clear hcz8_2);(try clear hcz8_3);(try clear hcz8_4);(try clear hcz9_0);(try clear hcz9_1);(try clear hcz9_2);(try clear hcz9_3);(try clear hcz9_4);(try clear hfz8_0);(try clear hfz8_1);(try clear hfz8_2);(try clear hfz8_3);(try clear hfz8_4);(try clear hfz9_0);(try clear hfz9_1);(try clear hfz9_2);(try clear hfz9_3);(try clear hfz9_4);(try clear p6);(try clear q6)
  obtain ⟨kq, x15_1, rfl, HA, HJ1, BK103, HB⟩ := hcut
  cases kq with
  | zero => exact absurd HA.out (by simp [impl_AffixOk.j0])
  | succ kj1 =>
   have H := HA.out
   clear HA
   simp only [impl_AffixOk.j0] at H
   replace H := itb_ H; rcases H with ⟨rfl, H⟩ | ⟨rfl, H⟩
   · obtain rfl := Option.some.inj H
     go_wp2
     go_ret
     exact ⟨rfe_, bl_⟩
   obtain ⟨y105, hy_⟩ : ∃ y_ : List ByteArray, y_ = (([a0_2, a0_3, a0_4] : List ByteArray)) := ⟨_, rfl⟩
   replace H : (impl_AffixOk.l0 kj1 y105 (y105.length : Int) 0 a0_0 a0_1 a0_2 a0_3 a0_4) = some r := ry_
   have Ny105 := Aside0.mk hy_; clear hy_
   have H' := Aside0.mk H; clear H
   have hcz11_0 := bc0_ BK103
   have hcz11_1 := bc1_ BK103
   have hcz11_2 := bc2_ BK103
   have hcz11_3 := bc3_ BK103
   have hcz11_4 := bc4_ BK103
   have hfz11_0 := blk_frozen BK103.out 0
   have hfz11_1 := blk_frozen BK103.out 1
   have hfz11_2 := blk_frozen BK103.out 2
   have hfz11_3 := blk_frozen BK103.out 3
   have hfz11_4 := blk_frozen BK103.out 4
   go_wp2_with (first | ((with_reducible refine gate_dst (N := 22) rfl ?_); refine rl_ Kd.string 9 22 ([a0_2, a0_3, a0_4] : List ByteArray) [.string a0_2, .string a0_3, .string a0_4] ?_; intro v106 w12 ho13 hb hg_ hnew_; clear hg_ hnew_; (first | rw [← Ny105.out] at ho13 | (simp only [Int.reduceToNat, Int.toNat_natCast] at ho13; rw [← Ny105.out] at ho13)); have HO107 := Aside0.mk (Kd.R_lower ho13 (below_size (bl_))); replace BK103 := Aside0.mk (blk_below (bk_ BK103) hb); replace HB := Aside0.mk (below_step (bl_) hb); clear hb ho13; obtain ⟨Ao14, co14, eo14⟩ := Kd.R_slice HO107.out; subst eo14))
   go_loopg [24] kj1 (fun kq v24 w' => ∃ (x24_2 : Int), v24 = .int .i64 x24_2 ∧ Aside0 (impl_AffixOk.l0 kq y105 (y105.length : Int) x24_2 a0_0 a0_1 a0_2 a0_3 a0_4 = some r) ∧ Aside0 (kq ≤ kj1) ∧ Aside0 (Kd.R Kd.string 9 w' w.heap.size (fun _ => True) (.slice Ao14 y105.length co14) y105) ∧ Aside0 (w'.heap[gb103]? = some (.cells #[.string a0_0, .bool a0_1, .string a0_2, .string a0_3, .string a0_4] 68 (0, 0))) ∧ Aside0 (Below w.heap.size w w'))
   case atStart => exact ⟨(0), rf_, H', ⟨Nat.le_refl _⟩, ⟨kR_ HO107⟩, ⟨by (with_reducible repeat (first | refine blk_drewN ?_ _ | refine blk_drew ?_ | refine blk_alloc ?_ _)); exact BK103.out⟩, ⟨bl_⟩⟩
   case round =>
    clear H'
    (try clear c1);(try clear p2);(try clear c4);(try clear c4b0);(try clear c4b1);(try clear c5);(try clear c5b0);(try clear c5b1);(try clear c6);(try clear p6);(try clear q6);(try clear hx6);(try clear qi6);(try clear c10);(try clear hcz11_0);(try clear hcz11_1);(try clear hcz11_2);(try clear hcz11_3);(try clear hcz11_4);(try clear hcz8_0);(try clear hcz8_1);(try clear hcz8_2);(try clear hcz8_3);(try clear hcz8_4);(try clear hcz9_0);(try clear hcz9_1);(try clear hcz9_2);(try clear hcz9_3);(try clear hcz9_4);(try clear hfz11_0);(try clear hfz11_1);(try clear hfz11_2);(try clear hfz11_3);(try clear hfz11_4);(try clear hfz8_0);(try clear hfz8_1);(try clear hfz8_2);(try clear hfz8_3);(try clear hfz8_4);(try clear hfz9_0);(try clear hfz9_1);(try clear hfz9_2);(try clear hfz9_3);(try clear hfz9_4);(try clear p2);(try clear p6);(try clear q6)
    obtain ⟨x24_2, rfl, HA, HK2, HO_22, BK103, HB⟩ := hrel
    cases gk with
    | zero => exact absurd HA.out (by simp [impl_AffixOk.l0])
    | succ k2 =>
     have H := HA.out
     clear HA
     simp only [impl_AffixOk.l0] at H
     replace H := iudd_ H; rcases H with ⟨c15b0, H⟩ | ⟨c15b0, H⟩
     · by_cases c21 : a0_1 = true
       · subst c21
         have H1 : ((strings_HasPrefix.f a0_4 a0_2).bind fun t110 => (some t110)) = some r := by rw [if_pos rfl] at H; exact H
         clear H
         have H := H1
         clear H1
         replace H := Option.bind_eq_some_iff.mp H
         obtain ⟨t110, A220, H⟩ := H; try dsimp only at H
         have A22 := Aside0.mk A220
         clear A220
         obtain rfl := Option.some.inj H
         have hcz23_0 := bc0_ BK103
         have hcz23_1 := bc1_ BK103
         have hcz23_2 := bc2_ BK103
         have hcz23_3 := bc3_ BK103
         have hcz23_4 := bc4_ BK103
         have hfz23_0 := blk_frozen BK103.out 0
         have hfz23_1 := blk_frozen BK103.out 1
         have hfz23_2 := blk_frozen BK103.out 2
         have hfz23_3 := blk_frozen BK103.out 3
         have hfz23_4 := blk_frozen BK103.out 4
         go_wp2_with (first | ((with_reducible refine gate_callee (f := 79) rfl ?_); refine gl_ 43 Try.func79 #[.string a0_4, .string a0_2] ?_; (with_reducible refine (strings_HasPrefix.calls a0_4 a0_2 t110 _ A22.out).mono ?_); rintro e w' ⟨rfl, ⟨nd, rfl⟩⟩; refine ⟨_, rfl, ?_⟩))
         go_ret
         exact ⟨rfe_, bl_⟩
       · replace c21 := Bool.eq_false_iff.mpr c21
         subst c21
         have H1 : ((strings_HasSuffix.f a0_4 a0_2).bind fun t111 => (some t111)) = some r := by rw [if_neg (show ¬ (false = true) by decide)] at H; exact H
         clear H
         have H := H1
         clear H1
         replace H := Option.bind_eq_some_iff.mp H
         obtain ⟨t111, A240, H⟩ := H; try dsimp only at H
         have A24 := Aside0.mk A240
         clear A240
         obtain rfl := Option.some.inj H
         have hcz25_0 := bc0_ BK103
         have hcz25_1 := bc1_ BK103
         have hcz25_2 := bc2_ BK103
         have hcz25_3 := bc3_ BK103
         have hcz25_4 := bc4_ BK103
         have hfz25_0 := blk_frozen BK103.out 0
         have hfz25_1 := blk_frozen BK103.out 1
         have hfz25_2 := blk_frozen BK103.out 2
         have hfz25_3 := blk_frozen BK103.out 3
         have hfz25_4 := blk_frozen BK103.out 4
         go_wp2_with (first | ((with_reducible refine gate_callee (f := 80) rfl ?_); refine gl_ 48 Try.func80 #[.string a0_4, .string a0_2] ?_; (with_reducible refine (strings_HasSuffix.calls a0_4 a0_2 t111 _ A24.out).mono ?_); rintro e w' ⟨rfl, ⟨nd, rfl⟩⟩; refine ⟨_, rfl, ?_⟩))
         go_ret
         exact ⟨rfe_, bl_⟩
     replace H := ind_ H; obtain ⟨c16b0, H⟩ := H
     replace H := ind_ H; obtain ⟨c17b0, H⟩ := H
     replace H := itcc_ H; rcases H with ⟨c18, H⟩ | ⟨c18, H⟩
     · have c18b0 : decide (4 < ((rdOf ByteArray.empty y105 x24_2).size : Int)) = true := decide_eq_true c18
       have c18b1 : decide (4 < (rdOf ByteArray.empty y105 x24_2).size) = true := decide_eq_true (by omega)
       clear c18
       obtain rfl := Option.some.inj H
       have p108 : 0 ≤ (x24_2 : Int) := od_
       have q108 : x24_2 < (y105.length : Int) := od_
       obtain ⟨ad108, e108, hx108_0⟩ := Kd.at_string (Kd.R_reads' HO_22.out).2.2 x24_2 p108 q108
       cases e108
       replace p108 := eq_true p108; replace q108 := eq_true q108
       go_wp2
       go_ret
       exact ⟨rfe_, bl_⟩
     have c18b0 : decide (4 < ((rdOf ByteArray.empty y105 x24_2).size : Int)) = false := decide_eq_false c18
     have c18b1 : decide (4 < (rdOf ByteArray.empty y105 x24_2).size) = false := decide_eq_false (by omega)
     clear c18
     replace H := Option.bind_eq_some_iff.mp H
     obtain ⟨t109, A190, H⟩ := H; try dsimp only at H
     have A19 := Aside0.mk A190
     clear A190
     replace H := iub_ H; rcases H with ⟨rfl, H⟩ | ⟨rfl, H⟩
     · obtain rfl := Option.some.inj H
       have p108 : 0 ≤ (x24_2 : Int) := od_
       have q108 : x24_2 < (y105.length : Int) := od_
       obtain ⟨ad108, e108, hx108_0⟩ := Kd.at_string (Kd.R_reads' HO_22.out).2.2 x24_2 p108 q108
       cases e108
       replace p108 := eq_true p108; replace q108 := eq_true q108
       go_wp2_with (first | (go_at_call 46; (with_reducible refine (impl_lower.calls k2 (rdOf ByteArray.empty y105 x24_2) false _ A19.out).mono ?_); rintro e w' ⟨rfl, ⟨nd, rfl⟩⟩))
       go_ret
       exact ⟨rfe_, bl_⟩
     have H' := Aside0.mk H; clear H
     have p108 : 0 ≤ (x24_2 : Int) := od_
     have q108 : x24_2 < (y105.length : Int) := od_
     obtain ⟨ad108, e108, hx108_0⟩ := Kd.at_string (Kd.R_reads' HO_22.out).2.2 x24_2 p108 q108
     cases e108
     replace p108 := eq_true p108; replace q108 := eq_true q108
     go_wp2_with (first | (go_at_call 46; (with_reducible refine (impl_lower.calls k2 (rdOf ByteArray.empty y105 x24_2) true _ A19.out).mono ?_); rintro e w' ⟨rfl, ⟨nd, rfl⟩⟩))
     go_roundg k2
     case measure => have := HJ1.out; have := HK2.out; omega
     case rel => exact ⟨(wrap64 (x24_2 + 1)), rf_, H', ⟨by have := HJ1.out; have := HK2.out; omega⟩, ⟨kR_ HO_22⟩, ⟨by (with_reducible repeat (first | refine blk_drewN ?_ _ | refine blk_drew ?_ | refine blk_alloc ?_ _)); exact BK103.out⟩, ⟨bl_⟩⟩

/-! ### impl_Affix_81: function 81 -/
def impl_Affix_81.l0 : Nat → List (S68) → Int → Int → ByteArray → Bool → ByteArray → ByteArray → ByteArray → Option (Int)
 | 0, _, _, _, _, _, _, _, _ => none
 | k + 1, x0, x7, x8, x113000, x113001, x113002, x113003, x113004 => if x8 < x7 then (if 0 ≤ x8 then (if x8 < (x0.length : Int) then (if (x113000.toList == (((rd_T68 x0 x8).f0).toList) && (x113001 == ((rd_T68 x0 x8).f1) && (x113002.toList == (((rd_T68 x0 x8).f2).toList) && (x113003.toList == (((rd_T68 x0 x8).f3).toList) && (x113004.toList == (((rd_T68 x0 x8).f4).toList)))))) = true then (some x8) else (impl_Affix_81.l0 k x0 x7 (wrap64 (x8 + 1)) x113000 x113001 x113002 x113003 x113004)) else (none)) else (none)) else (some (-1))
def impl_Affix_81.f (k : Nat) (l0 : List (S68)) (a1_0 : ByteArray) (a1_1 : Bool) (a1_2 : ByteArray) (a1_3 : ByteArray) (a1_4 : ByteArray) : Option (Int) := impl_Affix_81.l0 k l0 (l0.length : Int) 0 a1_0 a1_1 a1_2 a1_3 a1_4
theorem impl_Affix_81.mono_l : ∀ k, (∀ y0 y1 y2 y3 y4 y5 y6 y7, LeO (impl_Affix_81.l0 k y0 y1 y2 y3 y4 y5 y6 y7) (impl_Affix_81.l0 (k + 1) y0 y1 y2 y3 y4 y5 y6 y7))
 | 0 => fun _ _ _ _ _ _ _ _ r h => by simp [impl_Affix_81.l0] at h
 | k + 1 => by
  have ih0 := impl_Affix_81.mono_l k
  · intro y0 y1 y2 y3 y4 y5 y6 y7
    unfold impl_Affix_81.l0
    exact mn_
theorem impl_Affix_81.mono : ∀ a0 a1 a2 a3 a4 a5 k, LeO (impl_Affix_81.f k a0 a1 a2 a3 a4 a5) (impl_Affix_81.f (k + 1) a0 a1 a2 a3 a4 a5) := by
 intro a0 a1 a2 a3 a4 a5 k
 have ih0 := impl_Affix_81.mono_l k
 unfold impl_Affix_81.f
 exact mn_
theorem impl_Affix_81.calls (k : Nat) (A0 : Option Addr) (c0 : Nat) (l0 : List (S68)) (a1_0 : ByteArray) (a1_1 : Bool) (a1_2 : ByteArray) (a1_3 : ByteArray) (a1_4 : ByteArray) (r : Int) (w : World) (hr0 : Kd.C k68 w A0 l0.length l0) (hc0 : l0.length ≤ c0) (h : impl_Affix_81.f k l0 a1_0 a1_1 a1_2 a1_3 a1_4 = some r) :
 Calls Try.prog 81 #[.slice A0 l0.length c0, .agg #[.string a1_0, .bool a1_1, .string a1_2, .string a1_3, .string a1_4]] w fun e w' => e = .returned (.int .i64 r) ∧ Below w.heap.size w w' := by
 have hu68 := Try.underlying68
 have HR0 := Aside0.mk hr0
 have HC0 := Aside0.mk hc0
 clear hr0 hc0
 have HB := Aside0.mk (Below.refl w.heap.size w)
 unfold impl_Affix_81.f at h; have H := h; clear h
 have H' := Aside0.mk H; clear H
 go_enter Try.func81, Try.ntmps81
 go_wp2_with (first | ((with_reducible refine gate_dst (N := 3) rfl ?_); refine be_ 3 68 #[.string a1_0, .bool a1_1, .string a1_2, .string a1_3, .string a1_4] ?_; intro gb112 hg w3 hbox hb; have BK112 := Aside0.mk (hbox); have GW112 := Aside0.mk ((gs_ hg : w.heap.size ≤ gb112)); have GE112 := Aside0.mk ((gs_ hg : w.heap.size ≤ gb112)); replace HB := Aside0.mk (below_step (bl_) hb); clear hb hbox hg))
 repeat (go_quiet (first | ((with_reducible refine gate_dst (N := 3) rfl ?_); refine be_ 3 68 #[.string a1_0, .bool a1_1, .string a1_2, .string a1_3, .string a1_4] ?_; intro gb112 hg w3 hbox hb; have BK112 := Aside0.mk (hbox); have GW112 := Aside0.mk ((gs_ hg : w.heap.size ≤ gb112)); have GE112 := Aside0.mk ((gs_ hg : w.heap.size ≤ gb112)); replace HB := Aside0.mk (below_step (bl_) hb); clear hb hbox hg)); try go_wp2_with (first | ((with_reducible refine gate_dst (N := 3) rfl ?_); refine be_ 3 68 #[.string a1_0, .bool a1_1, .string a1_2, .string a1_3, .string a1_4] ?_; intro gb112 hg w3 hbox hb; have BK112 := Aside0.mk (hbox); have GW112 := Aside0.mk ((gs_ hg : w.heap.size ≤ gb112)); have GE112 := Aside0.mk ((gs_ hg : w.heap.size ≤ gb112)); replace HB := Aside0.mk (below_step (bl_) hb); clear hb hbox hg)))
 go_loopg [8] k (fun kq v8 w' => ∃ (x8_1 : Int), v8 = .int .i64 x8_1 ∧ Aside0 (impl_Affix_81.l0 kq l0 (l0.length : Int) x8_1 a1_0 a1_1 a1_2 a1_3 a1_4 = some r) ∧ Aside0 (kq ≤ k) ∧ Aside0 (w'.heap[gb112]? = some (.cells #[.string a1_0, .bool a1_1, .string a1_2, .string a1_3, .string a1_4] 68 (0, 0))) ∧ Aside0 (Below w.heap.size w w'))
 case atStart => exact ⟨(0), rf_, H', ⟨Nat.le_refl _⟩, ⟨by (with_reducible repeat (first | refine blk_drewN ?_ _ | refine blk_drew ?_ | refine blk_alloc ?_ _)); exact BK112.out⟩, ⟨bl_⟩⟩
 case round =>
  clear H'
  try clear p2
  obtain ⟨x8_1, rfl, HA, HK1, BK112, HB⟩ := hrel
  cases gk with
  | zero => exact absurd HA.out (by simp [impl_Affix_81.l0])
  | succ k1 =>
   have H := HA.out
   clear HA
   simp only [impl_Affix_81.l0] at H
   replace H := iudd_ H; rcases H with ⟨c4b0, H⟩ | ⟨c4b0, H⟩
   · obtain rfl := Option.some.inj H
     go_wp2
     repeat (go_quiet (fail); try go_wp2)
     go_ret
     exact ⟨rfe_, bl_⟩
   replace H := ind_ H; obtain ⟨c5b0, H⟩ := H
   replace H := ind_ H; obtain ⟨c6b0, H⟩ := H
   replace H := itcc_ H; rcases H with ⟨c7, H⟩ | ⟨c7, H⟩
   · have c7b0 : (a1_0.toList == (((rd_T68 l0 x8_1).f0).toList) && (a1_1 == ((rd_T68 l0 x8_1).f1) && (a1_2.toList == (((rd_T68 l0 x8_1).f2).toList) && (a1_3.toList == (((rd_T68 l0 x8_1).f3).toList) && (a1_4.toList == (((rd_T68 l0 x8_1).f4).toList)))))) = true := c7
     (try (have c7b1 : decide (a1_0.toList = (((rd_T68 l0 x8_1).f0).toList) && (a1_1 == ((rd_T68 l0 x8_1).f1) && (a1_2.toList == (((rd_T68 l0 x8_1).f2).toList) && (a1_3.toList == (((rd_T68 l0 x8_1).f3).toList) && (a1_4.toList == (((rd_T68 l0 x8_1).f4).toList)))))) = true := by simpa using c7))
     (try (have c7b2 : (a1_0.toList == (((rd_T68 l0 x8_1).f0).toList) && (a1_1 == ((rd_T68 l0 x8_1).f1) && (a1_2.toList == (((rd_T68 l0 x8_1).f2).toList) && (a1_3.toList == (((rd_T68 l0 x8_1).f3).toList) && (a1_4.toList == (((rd_T68 l0 x8_1).f4).toList)))))) = true := by simpa using c7))
     clear c7
     obtain rfl := Option.some.inj H
     have hcz8_0 := bc0_ BK112
     have hcz8_1 := bc1_ BK112
     have hcz8_2 := bc2_ BK112
     have hcz8_3 := bc3_ BK112
     have hcz8_4 := bc4_ BK112
     have hfz8_0 := blk_frozen BK112.out 0
     have hfz8_1 := blk_frozen BK112.out 1
     have hfz8_2 := blk_frozen BK112.out 2
     have hfz8_3 := blk_frozen BK112.out 3
     have hfz8_4 := blk_frozen BK112.out 4
     have p113 : 0 ≤ (x8_1 : Int) := od_
     have q113 : x8_1 < (l0.length : Int) := od_
     obtain ⟨ad113, e113, hx113_0, hx113_1, hx113_2, hx113_3, hx113_4⟩ := at_T68 HR0.out x8_1 p113 q113
     cases e113
     replace hx113_0 := hc_ HB hx113_0
     replace hx113_1 := hc_ HB hx113_1
     replace hx113_2 := hc_ HB hx113_2
     replace hx113_3 := hc_ HB hx113_3
     replace hx113_4 := hc_ HB hx113_4
     replace p113 := eq_true p113; replace q113 := eq_true q113
     go_wp2
     repeat (go_quiet (fail); try go_wp2)
     go_ret
     exact ⟨rfe_, bl_⟩
   have c7b0 : (a1_0.toList == (((rd_T68 l0 x8_1).f0).toList) && (a1_1 == ((rd_T68 l0 x8_1).f1) && (a1_2.toList == (((rd_T68 l0 x8_1).f2).toList) && (a1_3.toList == (((rd_T68 l0 x8_1).f3).toList) && (a1_4.toList == (((rd_T68 l0 x8_1).f4).toList)))))) = false := by simpa using c7
   (try (have c7b1 : decide (a1_0.toList = (((rd_T68 l0 x8_1).f0).toList) && (a1_1 == ((rd_T68 l0 x8_1).f1) && (a1_2.toList == (((rd_T68 l0 x8_1).f2).toList) && (a1_3.toList == (((rd_T68 l0 x8_1).f3).toList) && (a1_4.toList == (((rd_T68 l0 x8_1).f4).toList)))))) = false := by simpa using c7))
   (try (have c7b2 : (a1_0.toList == (((rd_T68 l0 x8_1).f0).toList) && (a1_1 == ((rd_T68 l0 x8_1).f1) && (a1_2.toList == (((rd_T68 l0 x8_1).f2).toList) && (a1_3.toList == (((rd_T68 l0 x8_1).f3).toList) && (a1_4.toList == (((rd_T68 l0 x8_1).f4).toList)))))) = false := by simpa using c7))
   (try (have c7b3 : ¬ (a1_0.toList = (((rd_T68 l0 x8_1).f0).toList) && (a1_1 == ((rd_T68 l0 x8_1).f1) && (a1_2.toList == (((rd_T68 l0 x8_1).f2).toList) && (a1_3.toList == (((rd_T68 l0 x8_1).f3).toList) && (a1_4.toList == (((rd_T68 l0 x8_1).f4).toList)))))) := by simpa using c7))
   clear c7
   have H' := Aside0.mk H; clear H
   have hcz9_0 := bc0_ BK112
   have hcz9_1 := bc1_ BK112
   have hcz9_2 := bc2_ BK112
   have hcz9_3 := bc3_ BK112
   have hcz9_4 := bc4_ BK112
   have hfz9_0 := blk_frozen BK112.out 0
   have hfz9_1 := blk_frozen BK112.out 1
   have hfz9_2 := blk_frozen BK112.out 2
   have hfz9_3 := blk_frozen BK112.out 3
   have hfz9_4 := blk_frozen BK112.out 4
   have p113 : 0 ≤ (x8_1 : Int) := od_
   have q113 : x8_1 < (l0.length : Int) := od_
   obtain ⟨ad113, e113, hx113_0, hx113_1, hx113_2, hx113_3, hx113_4⟩ := at_T68 HR0.out x8_1 p113 q113
   cases e113
   replace hx113_0 := hc_ HB hx113_0
   replace hx113_1 := hc_ HB hx113_1
   replace hx113_2 := hc_ HB hx113_2
   replace hx113_3 := hc_ HB hx113_3
   replace hx113_4 := hc_ HB hx113_4
   replace p113 := eq_true p113; replace q113 := eq_true q113
   go_wp2
   repeat (go_quiet (fail); try go_wp2)
   go_roundg k1
   case measure => have := HK1.out; omega
   case rel => exact ⟨(wrap64 (x8_1 + 1)), rf_, H', ⟨by have := HK1.out; omega⟩, ⟨by (with_reducible repeat (first | refine blk_drewN ?_ _ | refine blk_drew ?_ | refine blk_alloc ?_ _)); exact BK112.out⟩, ⟨bl_⟩⟩

/-! ### impl_Affix_67: function 67 -/
def impl_Affix_67.f (k : Nat) (l0 : List (S68)) (a1_0 : ByteArray) (a1_1 : Bool) (a1_2 : ByteArray) (a1_3 : ByteArray) (a1_4 : ByteArray) : Option (Bool) := (impl_Affix_81.f k l0 a1_0 a1_1 a1_2 a1_3 a1_4).bind fun t115 => (some (decide (t115 ≥ 0)))
theorem impl_Affix_67.mono : ∀ a0 a1 a2 a3 a4 a5 k, LeO (impl_Affix_67.f k a0 a1 a2 a3 a4 a5) (impl_Affix_67.f (k + 1) a0 a1 a2 a3 a4 a5) := by
 intro a0 a1 a2 a3 a4 a5 k
 unfold impl_Affix_67.f
 have m0 := @impl_Affix_81.mono
 exact mn_
theorem impl_Affix_67.calls (k : Nat) (A0 : Option Addr) (c0 : Nat) (l0 : List (S68)) (a1_0 : ByteArray) (a1_1 : Bool) (a1_2 : ByteArray) (a1_3 : ByteArray) (a1_4 : ByteArray) (r : Bool) (w : World) (hr0 : Kd.C k68 w A0 l0.length l0) (hc0 : l0.length ≤ c0) (h : impl_Affix_67.f k l0 a1_0 a1_1 a1_2 a1_3 a1_4 = some r) :
 Calls Try.prog 67 #[.slice A0 l0.length c0, .agg #[.string a1_0, .bool a1_1, .string a1_2, .string a1_3, .string a1_4]] w fun e w' => e = .returned (.bool r) ∧ Below w.heap.size w w' := by
 have hu68 := Try.underlying68
 have HR0 := Aside0.mk hr0
 have HC0 := Aside0.mk hc0
 clear hr0 hc0
 have HB := Aside0.mk (Below.refl w.heap.size w)
 unfold impl_Affix_67.f at h; have H := h; clear h
 replace H := Option.bind_eq_some_iff.mp H
 obtain ⟨t115, A30, H⟩ := H; try dsimp only at H
 have A3 := Aside0.mk A30
 clear A30
 obtain rfl := Option.some.inj H
 go_enter Try.func67, Try.ntmps67
 go_wp2_with (first | ((with_reducible refine gate_dst (N := 3) rfl ?_); refine be_ 3 68 #[.string a1_0, .bool a1_1, .string a1_2, .string a1_3, .string a1_4] ?_; intro gb114 hg w4 hbox hb; have BK114 := Aside0.mk (hbox); have GW114 := Aside0.mk ((gs_ hg : w.heap.size ≤ gb114)); have GE114 := Aside0.mk ((gs_ hg : w.heap.size ≤ gb114)); replace HB := Aside0.mk (below_step (bl_) hb); clear hb hbox hg; have hcz5_0 := bc0_ BK114; have hcz5_1 := bc1_ BK114; have hcz5_2 := bc2_ BK114; have hcz5_3 := bc3_ BK114; have hcz5_4 := bc4_ BK114; have hfz5_0 := blk_frozen BK114.out 0; have hfz5_1 := blk_frozen BK114.out 1; have hfz5_2 := blk_frozen BK114.out 2; have hfz5_3 := blk_frozen BK114.out 3; have hfz5_4 := blk_frozen BK114.out 4) | ((with_reducible refine gate_callee (f := 81) rfl ?_); refine gl_ 7 Try.func81 #[.slice A0 l0.length c0, .agg #[.string a1_0, .bool a1_1, .string a1_2, .string a1_3, .string a1_4]] ?_; (with_reducible refine (impl_Affix_81.calls k _ _ l0 a1_0 a1_1 a1_2 a1_3 a1_4 t115 _ ?side1 ?side2 A3.out).mono ?_); (case side1 => exact cb_ HR0); (case side2 => exact HC0.out); rintro e w6 ⟨rfl, hb⟩; refine ⟨_, rfl, ?_⟩; replace BK114 := Aside0.mk (blk_below (bk_ BK114) hb); replace HB := Aside0.mk (below_step (bl_) hb); (try clear hb); (try clear hb2); (try clear hk); (try clear hi)))
 go_ret
 exact ⟨rfe_, bl_⟩

end Go.Proofs.Ytbopiacjioedeaa.P
