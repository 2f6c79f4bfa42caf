-- Written by a program of this session (wip/gen/gen.py) out of Lean's print of the loaded program; Lean checks it.
import Derived.Test.YtlmbmfnimpjgmaaDoorP0
import Derived.Test.YtlmbmfnimpjgmaaDoorSq2
import Derived.Test.YtlmbmfnimpjgmaaDoorP2
import Derived.Test.YtlmbmfnimpjgmaaDoorP8
namespace Go.Proofs.YtlmbmfnimpjgmaaDoor.P
open Go.RowKit Go.Proofs.YtlmbmfnimpjgmaaDoorW.PrintWords Go.Proofs.YtlmbmfnimpjgmaaDoorW.PrintLast Go.Proofs.YtlmbmfnimpjgmaaDoorW.PrintMore
attribute [local go_sem] max2_int min2_int max_two min_two max_three min_three max_four min_four IntKind.wrap_u8 IntKind.wrap_u32 w64_256 w64_u32
set_option maxHeartbeats 8000000
set_option maxRecDepth 100000
set_option linter.unusedVariables false
set_option linter.unusedSimpArgs false

/-! ### spec_l1Word: function 18 -/
def spec_l1Word.f (k : Nat) (a0 : ByteArray) : Option (Bool) := if (a0.size : Int) > 0 then ((spec_l1Letters.f k a0 12).bind fun t350 => (some t350)) else (some false)
theorem spec_l1Word.mono : ∀ a0 k, LeO (spec_l1Word.f k a0) (spec_l1Word.f (k + 1) a0) := by
 intro a0 k
 unfold spec_l1Word.f
 have m0 := @spec_l1Letters.mono
 exact mn_
theorem spec_l1Word.calls (k : Nat) (a0 : ByteArray) (r : Bool) (w : World) (h : spec_l1Word.f k a0 = some r) :
 Calls Tryd.prog 18 #[.string a0] w fun e w' => e = .returned (.bool r) ∧ Drawn0 w w' := by
 unfold spec_l1Word.f at h; have H := h; clear h
 replace H := iucc_ H; rcases H with ⟨c2, H⟩ | ⟨c2, H⟩
 · have c2b0 : decide (0 < (a0.size : Int)) = false := decide_eq_false c2
   have c2b1 : decide (0 < a0.size) = false := decide_eq_false (by omega)
   clear c2
   obtain rfl := Option.some.inj H
   go_enter Tryd.func18, Tryd.ntmps18
   go_wp2
   go_ret
   exact ⟨rf_, dr_⟩
 have c2b0 : decide (0 < (a0.size : Int)) = true := decide_eq_true c2
 have c2b1 : decide (0 < a0.size) = true := decide_eq_true (by omega)
 clear c2
 replace H := Option.bind_eq_some_iff.mp H
 obtain ⟨t350, A30, H⟩ := H; try dsimp -simprocs only at H
 have A3 := Aside0.mk A30
 clear A30
 obtain rfl := Option.some.inj H
 go_enter Tryd.func18, Tryd.ntmps18
 go_wp2_with (first | (go_at_call 37; (with_reducible refine (spec_l1Letters.calls k a0 12 t350 _ A3.out).mono ?_); rintro e w' ⟨rfl, ⟨nd, rfl⟩⟩))
 go_ret
 exact ⟨rf_, dr_⟩

/-! ### spec_l9Patterns: function 30 -/
def spec_l9Patterns.l0 : Nat → List (S42) → Int → Option (Bool)
 | 0, _, _ => none
 | k + 1, x0, x3 => if x3 < (x0.length : Int) then (if 0 ≤ x3 then ((spec_PatternOk.f k ((rd_T42 x0 x3).f0) ((rd_T42 x0 x3).f1)).bind fun t352 => (if t352 = true then (spec_l9Patterns.l0 k x0 (wrap64 (x3 + 1))) else (some false))) else (none)) else (some (decide ((x0.length : Int) ≤ 20)))
def spec_l9Patterns.f (k : Nat) (l0 : List (S42)) : Option (Bool) := spec_l9Patterns.l0 k l0 0
theorem spec_l9Patterns.mono_l : ∀ k, (∀ y0 y1, LeO (spec_l9Patterns.l0 k y0 y1) (spec_l9Patterns.l0 (k + 1) y0 y1))
 | 0 => fun _ _ r h => by simp [spec_l9Patterns.l0] at h
 | k + 1 => by
  have ih0 := spec_l9Patterns.mono_l k
  · intro y0 y1
    unfold spec_l9Patterns.l0
    have m0 := @spec_PatternOk.mono
    exact mn_
theorem spec_l9Patterns.mono : ∀ a0 k, LeO (spec_l9Patterns.f k a0) (spec_l9Patterns.f (k + 1) a0) := by
 intro a0 k
 have ih0 := spec_l9Patterns.mono_l k
 unfold spec_l9Patterns.f
 have m0 := @spec_PatternOk.mono
 exact mn_
theorem spec_l9Patterns.calls (k : Nat) (A0 : Option Addr) (c0 : Nat) (l0 : List (S42)) (r : Bool) (w : World) (hr0 : Kd.C k42 w A0 l0.length l0) (hc0 : l0.length ≤ c0) (h : spec_l9Patterns.f k l0 = some r) :
 Calls Tryd.prog 30 #[.slice A0 l0.length c0] w fun e w' => e = .returned (.bool r) ∧ Below w.heap.size w w' := by
 have hu42 := Tryd.underlying42
 have HR0 := Aside0.mk hr0
 have HC0 := Aside0.mk hc0
 clear hr0 hc0
 have HB := Aside0.mk (Below.refl w.heap.size w)
 unfold spec_l9Patterns.f at h; have H := h; clear h
 have H' := Aside0.mk H; clear H
 go_enter Tryd.func30, Tryd.ntmps30
 go_wp2
 go_loopg [3] k (fun kq v3 w' => ∃ (x3_1 : Int), v3 = .int .i64 x3_1 ∧ Aside0 (spec_l9Patterns.l0 kq l0 x3_1 = some r) ∧ Aside0 (kq ≤ k) ∧ Aside0 (Below w.heap.size w w'))
 case atStart => exact ⟨(0), rf_, H', ⟨Nat.le_refl _⟩, ⟨bl_⟩⟩
 case round =>
  clear H'
  obtain ⟨x3_1, rfl, HA, HK1, HB⟩ := hrel
  cases gk with
  | zero => exact absurd HA.out (by simp [spec_l9Patterns.l0])
  | succ k1 =>
   have H := HA.out
   clear HA
   simp only [spec_l9Patterns.l0] at H
   replace H := iudd_ H; rcases H with ⟨c2b0, H⟩ | ⟨c2b0, H⟩
   · obtain rfl := Option.some.inj H
     go_wp2
     go_ret
     exact ⟨rfe_, bl_⟩
   replace H := ind_ H; obtain ⟨c3b0, H⟩ := H
   replace H := Option.bind_eq_some_iff.mp H
   obtain ⟨t352, A40, H⟩ := H; try dsimp -simprocs only at H
   have A4 := Aside0.mk A40
   clear A40
   replace H := iub_ H; rcases H with ⟨rfl, H⟩ | ⟨rfl, H⟩
   · obtain rfl := Option.some.inj H
     have p351 : 0 ≤ (x3_1 : Int) := od_
     have q351 : x3_1 < (l0.length : Int) := od_
     obtain ⟨ad351, A351_1, c351_1, e351, hx351_0, hx351_1, hl351_1, hi351_1⟩ := at_T42 HR0.out x3_1 p351 q351
     cases e351
     replace hx351_0 := hc_ HB hx351_0
     replace hx351_1 := hc_ HB hx351_1
     have HR351_1 := Aside0.mk hi351_1
     have HC351_1 := Aside0.mk hl351_1
     clear hi351_1 hl351_1
     replace p351 := eq_true p351; replace q351 := eq_true q351
     go_wp2_with (first | ((with_reducible refine gate_callee (f := 46) rfl ?_); refine gl_ 14 Tryd.func46 #[.agg #[.string ((rd_T42 l0 x3_1).f0), .slice A351_1 ((rd_T42 l0 x3_1).f1).length c351_1]] ?_; (with_reducible refine (spec_PatternOk.calls k1 ((rd_T42 l0 x3_1).f0) _ _ ((rd_T42 l0 x3_1).f1) false _ ?side1 ?side2 A4.out).mono ?_); (case side1 => exact cb_ HR351_1); (case side2 => exact HC351_1.out); rintro e w7 ⟨rfl, hb⟩; refine ⟨_, rfl, ?_⟩; replace HB := Aside0.mk (below_step (bl_) hb); (try clear hb); (try clear hb2); (try clear hk); (try clear hi)))
     go_ret
     exact ⟨rfe_, bl_⟩
   have H' := Aside0.mk H; clear H
   have p351 : 0 ≤ (x3_1 : Int) := od_
   have q351 : x3_1 < (l0.length : Int) := od_
   obtain ⟨ad351, A351_1, c351_1, e351, hx351_0, hx351_1, hl351_1, hi351_1⟩ := at_T42 HR0.out x3_1 p351 q351
   cases e351
   replace hx351_0 := hc_ HB hx351_0
   replace hx351_1 := hc_ HB hx351_1
   have HR351_1 := Aside0.mk hi351_1
   have HC351_1 := Aside0.mk hl351_1
   clear hi351_1 hl351_1
   replace p351 := eq_true p351; replace q351 := eq_true q351
   go_wp2_with (first | ((with_reducible refine gate_callee (f := 46) rfl ?_); refine gl_ 14 Tryd.func46 #[.agg #[.string ((rd_T42 l0 x3_1).f0), .slice A351_1 ((rd_T42 l0 x3_1).f1).length c351_1]] ?_; (with_reducible refine (spec_PatternOk.calls k1 ((rd_T42 l0 x3_1).f0) _ _ ((rd_T42 l0 x3_1).f1) true _ ?side1 ?side2 A4.out).mono ?_); (case side1 => exact cb_ HR351_1); (case side2 => exact HC351_1.out); rintro e w6 ⟨rfl, hb⟩; refine ⟨_, rfl, ?_⟩; replace HB := Aside0.mk (below_step (bl_) hb); (try clear hb); (try clear hb2); (try clear hk); (try clear hi)))
   go_roundg k1
   case measure => have := HK1.out; omega
   case rel => exact ⟨(wrap64 (x3_1 + 1)), rf_, H', ⟨by have := HK1.out; omega⟩, ⟨bl_⟩⟩

/-! ### spec_l9Join: function 47 -/
def spec_l9Join.f (a0 : ByteArray) (a1 : ByteArray) : Option (ByteArray) := if a0.toList = ([] : List UInt8) then (some a1) else (if a0.size + 1 ≤ 9223372036854775807 then (if a0.size + 1 + a1.size ≤ 9223372036854775807 then (some ((a0 ++ (⟨#[32]⟩ : ByteArray)) ++ a1)) else (none)) else (none))
theorem spec_l9Join.calls (a0 : ByteArray) (a1 : ByteArray) (r : ByteArray) (w : World) (h : spec_l9Join.f a0 a1 = some r) :
 Calls Tryd.prog 47 #[.string a0, .string a1] w fun e w' => e = .returned (.string r) ∧ Drawn0 w w' := by
 unfold spec_l9Join.f at h; have H := h; clear h
 replace H := itcc_ H; rcases H with ⟨c3, H⟩ | ⟨c3, H⟩
 · have c3b0 : (a0.toList == ([] : List UInt8)) = true := beq_iff_eq.mpr c3
   have c3be : a0.toList.isEmpty = true := by rw [List.isEmpty_iff]; exact c3
   have c3b1 : (a0.toList != ([] : List UInt8)) = false := bne_eq_false_iff_eq.mpr c3
   clear c3
   obtain rfl := Option.some.inj H
   go_enter Tryd.func47, Tryd.ntmps47
   go_wp2
   go_ret
   exact ⟨rf_, dr_⟩
 have c3b0 : (a0.toList == ([] : List UInt8)) = false := beq_eq_false_iff_ne.mpr c3
 have c3be : a0.toList.isEmpty = false := by rw [← Bool.not_eq_true, List.isEmpty_iff]; exact c3
 have c3b1 : (a0.toList != ([] : List UInt8)) = true := bne_iff_ne.mpr c3
 replace H := inc_ H; obtain ⟨c4, H⟩ := H
 have c4b0 := eq_true c4
 have c4b1 : decide (a0.size + 1 ≤ 9223372036854775807) = true := decide_eq_true c4
 try have c4b2 : (9223372036854775807 < a0.size + 1) = False := eq_false (Nat.not_lt.2 c4)
 replace H := inc_ H; obtain ⟨c5, H⟩ := H
 have c5b0 := eq_true c5
 have c5b1 : decide (a0.size + 1 + a1.size ≤ 9223372036854775807) = true := decide_eq_true c5
 try have c5b2 : (9223372036854775807 < a0.size + 1 + a1.size) = False := eq_false (Nat.not_lt.2 c5)
 obtain rfl := Option.some.inj H
 go_enter Tryd.func47, Tryd.ntmps47
 go_wp2
 go_ret
 exact ⟨rf_, dr_⟩

/-! ### spec_l9Marks: function 52 -/
mutual
def spec_l9Marks.l0 : Nat → List (S42) → ByteArray → List Int → Int → Option (List Int)
 | 0, _, _, _, _ => none
 | k + 1, x0, x1, x5, x6 => if x6 < (x0.length : Int) then (if 0 ≤ x6 then (spec_l9Marks.l1 k x0 x1 x5 x6 (((rd_T42 x0 x6).f0).size : Int) 0) else (none)) else (some x5)
def spec_l9Marks.l1 : Nat → List (S42) → ByteArray → List Int → Int → Int → Int → Option (List Int)
 | 0, _, _, _, _, _, _ => none
 | k + 1, x0, x1, x5, x6, x7, x8 => if (wrap64 (x8 + x7)) ≤ (x1.size : Int) then (spec_l9Marks.l2 k x0 x1 x5 x6 x7 x8 0) else (spec_l9Marks.l0 k x0 x1 x5 (wrap64 (x6 + 1)))
def spec_l9Marks.l2 : Nat → List (S42) → ByteArray → List Int → Int → Int → Int → Int → Option (List Int)
 | 0, _, _, _, _, _, _, _ => none
 | k + 1, x0, x1, x5, x6, x7, x8, x9 => if x9 ≤ x7 then (if 0 ≤ x8 then (if x8 ≤ (wrap64 (x8 + x7)) then (if (wrap64 (x8 + x7)) ≤ (x1.size : Int) then (if 0 ≤ x6 then (if x6 < (x0.length : Int) then (spec_l9Marks.j3 k x0 x1 x5 x6 x7 x8 x9 ((x1.extract (x8 : Int).toNat ((wrap64 (x8 + x7)) : Int).toNat).toList == ((rd_T42 x0 x6).f0).toList)) else (none)) else (none)) else (none)) else (none)) else (none)) else (spec_l9Marks.j3 k x0 x1 x5 x6 x7 x8 x9 false)
def spec_l9Marks.j3 : Nat → List (S42) → ByteArray → List Int → Int → Int → Int → Int → Bool → Option (List Int)
 | 0, _, _, _, _, _, _, _, _ => none
 | k + 1, x0, x1, x5, x6, x7, x8, x9, x50 => if x50 = true then (if 0 ≤ x6 then (if x6 < (x0.length : Int) then (if 0 ≤ x9 then (if x9 < (((rd_T42 x0 x6).f1).length : Int) then (if 0 ≤ (wrap64 (x8 + x9)) then (if (wrap64 (x8 + x9)) < (x5.length : Int) then (if (rd ((rd_T42 x0 x6).f1) x9) > (rd x5 (wrap64 (x8 + x9))) then (spec_l9Marks.l2 k x0 x1 (x5.set ((wrap64 (x8 + x9)) : Int).toNat (rd ((rd_T42 x0 x6).f1) x9)) x6 x7 x8 (wrap64 (x9 + 1))) else (spec_l9Marks.l2 k x0 x1 x5 x6 x7 x8 (wrap64 (x9 + 1)))) else (none)) else (none)) else (none)) else (none)) else (none)) else (none)) else (spec_l9Marks.l1 k x0 x1 x5 x6 x7 (wrap64 (x8 + 1)))
end
def spec_l9Marks.f (k : Nat) (l0 : List (S42)) (a1 : ByteArray) : Option (List Int) := if 0 ≤ (wrap64 ((a1.size : Int) + 1)) then (if (wrap64 ((a1.size : Int) + 1) : Int).toNat ≤ 35184372088832 then (spec_l9Marks.l0 k l0 a1 (List.replicate (wrap64 ((a1.size : Int) + 1) : Int).toNat 0) 0) else (none)) else (none)
theorem spec_l9Marks.mono_l : ∀ k, (∀ y0 y1 y2 y3, LeO (spec_l9Marks.l0 k y0 y1 y2 y3) (spec_l9Marks.l0 (k + 1) y0 y1 y2 y3)) ∧ (∀ y0 y1 y2 y3 y4 y5, LeO (spec_l9Marks.l1 k y0 y1 y2 y3 y4 y5) (spec_l9Marks.l1 (k + 1) y0 y1 y2 y3 y4 y5)) ∧ (∀ y0 y1 y2 y3 y4 y5 y6, LeO (spec_l9Marks.l2 k y0 y1 y2 y3 y4 y5 y6) (spec_l9Marks.l2 (k + 1) y0 y1 y2 y3 y4 y5 y6)) ∧ (∀ y0 y1 y2 y3 y4 y5 y6 y7, LeO (spec_l9Marks.j3 k y0 y1 y2 y3 y4 y5 y6 y7) (spec_l9Marks.j3 (k + 1) y0 y1 y2 y3 y4 y5 y6 y7))
 | 0 => ⟨fun _ _ _ _ r h => by simp [spec_l9Marks.l0] at h, fun _ _ _ _ _ _ r h => by simp [spec_l9Marks.l1] at h, fun _ _ _ _ _ _ _ r h => by simp [spec_l9Marks.l2] at h, fun _ _ _ _ _ _ _ _ r h => by simp [spec_l9Marks.j3] at h⟩
 | k + 1 => by
  obtain ⟨ih0, ih1, ih2, ih3⟩ := spec_l9Marks.mono_l k
  refine ⟨?_, ?_, ?_, ?_⟩
  · intro y0 y1 y2 y3
    unfold spec_l9Marks.l0
    exact mn_
  · intro y0 y1 y2 y3 y4 y5
    unfold spec_l9Marks.l1
    exact mn_
  · intro y0 y1 y2 y3 y4 y5 y6
    unfold spec_l9Marks.l2
    exact mn_
  · intro y0 y1 y2 y3 y4 y5 y6 y7
    unfold spec_l9Marks.j3
    exact mn_
theorem spec_l9Marks.mono : ∀ a0 a1 k, LeO (spec_l9Marks.f k a0 a1) (spec_l9Marks.f (k + 1) a0 a1) := by
 intro a0 a1 k
 obtain ⟨ih0, ih1, ih2, ih3⟩ := spec_l9Marks.mono_l k
 unfold spec_l9Marks.f
 exact mn_
theorem spec_l9Marks.calls (k : Nat) (A0 : Option Addr) (c0 : Nat) (l0 : List (S42)) (a1 : ByteArray) (r : List Int) (w : World) (hr0 : Kd.C k42 w A0 l0.length l0) (hc0 : l0.length ≤ c0) (h : spec_l9Marks.f k l0 a1 = some r) :
 Calls Tryd.prog 52 #[.slice A0 l0.length c0, .string a1] w fun e w' => ∃ v0_ : Value, e = .returned (v0_) ∧ Kd.R (Kd.int .i64) 3 w' w.heap.size (fun _ => True) v0_ r ∧ Below w.heap.size w w' := by
 have HR0 := Aside0.mk hr0
 have HC0 := Aside0.mk hc0
 clear hr0 hc0
 have HB := Aside0.mk (Below.refl w.heap.size w)
 unfold spec_l9Marks.f at h; have H := h; clear h
 obtain ⟨ji3, hji3⟩ : ∃ j_ : Int, (wrap64 ((a1.size : Int) + 1)) = j_ := ⟨_, rfl⟩
 replace H : (if 0 ≤ (ji3) then (if (ji3 : Int).toNat ≤ 35184372088832 then (spec_l9Marks.l0 k l0 a1 (List.replicate (ji3 : Int).toNat 0) 0) else (none)) else (none)) = some r := by first | (rw [hji3] at H; exact H) | (simp only [hji3] at H ⊢; exact H)
 have hji3w : (IntKind.i64.wrap ((a1.size : Int) + 1)) = ji3 := (i64_w _).trans hji3
 replace H := inc_ H; obtain ⟨c4, H⟩ := H
 have c4b0 := eq_true c4
 have c4b1 : decide (0 ≤ (ji3)) = true := decide_eq_true c4
 clear c4
 replace H := inc_ H; obtain ⟨c5, H⟩ := H
 have c5b0 := eq_true c5
 have c5b1 : decide ((ji3 : Int).toNat ≤ 35184372088832) = true := decide_eq_true c5
 clear c5
 obtain ⟨y353, hy_⟩ : ∃ y_ : List Int, y_ = (List.replicate (ji3 : Int).toNat 0) := ⟨_, rfl⟩
 replace H : (spec_l9Marks.l0 k l0 a1 y353 0) = some r := ry_
 have Ny353 := Aside0.mk hy_; clear hy_
 have H' := Aside0.mk H; clear H
 go_enter Tryd.func52, Tryd.ntmps52
 go_wp2_with (first | ((with_reducible refine gate_dst (N := 13) rfl ?_); refine Kd.R_make (Kd.int .i64) _ 3 rfl (N := 13) rfl 29 _ _ rfl ji3 rfl rfl Tryd.underlying29 (.int .i64 0) 8 info3 rfl (by decide) (by omega) 0 (ok := fun _ => True) (okp := fun _ => True) rfl (fun _ hk => hk) trivial (od_) (Nat.le_trans (Nat.mul_le_mul_right _ (od_ : ji3.toNat ≤ 35184372088832)) (by omega)) (Below.refl _ _) (Nat.le_refl _) ?_; intro v354 w6 ho7 hb hg_ hnew_; clear hg_ hnew_; (first | rw [← Ny353.out] at ho7 | (simp only [Int.reduceToNat] at ho7; rw [← Ny353.out] at ho7)); have HO355 := Aside0.mk (Kd.R_lower ho7 (below_size (bl_))); replace HB := Aside0.mk (below_step (bl_) hb); clear hb ho7))
 repeat (go_quiet (first | ((with_reducible refine gate_dst (N := 13) rfl ?_); refine Kd.R_make (Kd.int .i64) _ 3 rfl (N := 13) rfl 29 _ _ rfl ji3 rfl rfl Tryd.underlying29 (.int .i64 0) 8 info3 rfl (by decide) (by omega) 0 (ok := fun _ => True) (okp := fun _ => True) rfl (fun _ hk => hk) trivial (od_) (Nat.le_trans (Nat.mul_le_mul_right _ (od_ : ji3.toNat ≤ 35184372088832)) (by omega)) (Below.refl _ _) (Nat.le_refl _) ?_; intro v354 w6 ho7 hb hg_ hnew_; clear hg_ hnew_; (first | rw [← Ny353.out] at ho7 | (simp only [Int.reduceToNat] at ho7; rw [← Ny353.out] at ho7)); have HO355 := Aside0.mk (Kd.R_lower ho7 (below_size (bl_))); replace HB := Aside0.mk (below_step (bl_) hb); clear hb ho7)); try go_wp2_with (first | ((with_reducible refine gate_dst (N := 13) rfl ?_); refine Kd.R_make (Kd.int .i64) _ 3 rfl (N := 13) rfl 29 _ _ rfl ji3 rfl rfl Tryd.underlying29 (.int .i64 0) 8 info3 rfl (by decide) (by omega) 0 (ok := fun _ => True) (okp := fun _ => True) rfl (fun _ hk => hk) trivial (od_) (Nat.le_trans (Nat.mul_le_mul_right _ (od_ : ji3.toNat ≤ 35184372088832)) (by omega)) (Below.refl _ _) (Nat.le_refl _) ?_; intro v354 w6 ho7 hb hg_ hnew_; clear hg_ hnew_; (first | rw [← Ny353.out] at ho7 | (simp only [Int.reduceToNat] at ho7; rw [← Ny353.out] at ho7)); have HO355 := Aside0.mk (Kd.R_lower ho7 (below_size (bl_))); replace HB := Aside0.mk (below_step (bl_) hb); clear hb ho7)))
 go_loopg [6] k (fun kq v6 w' => ∃ (x5_1 : List Int) (x6_1 : Int), v6 = .int .i64 x6_1 ∧ Aside0 (spec_l9Marks.l0 kq l0 a1 x5_1 x6_1 = some r) ∧ Aside0 (kq ≤ k) ∧ Aside0 (Kd.R (Kd.int .i64) 3 w' w.heap.size (fun _ => True) v354 x5_1) ∧ Aside0 (Below w.heap.size w w'))
 case atStart => exact ⟨(y353), (0), rf_, H', ⟨Nat.le_refl _⟩, ⟨kR_ HO355⟩, ⟨bl_⟩⟩
 case round =>
  clear H'
  (try clear p2);(try clear c4);(try clear c4b0);(try clear c4b1);(try clear c5);(try clear c5b0);(try clear c5b1);(try clear p6)
  obtain ⟨x5_1, x6_1, rfl, HA, HK1, HO_5, HB⟩ := hrel
  cases gk with
  | zero => exact absurd HA.out (by simp [spec_l9Marks.l0])
  | succ k1 =>
   have H := HA.out
   clear HA
   simp only [spec_l9Marks.l0] at H
   replace H := iucd_ H; rcases H with ⟨c8b0, H⟩ | ⟨c8, H⟩
   · obtain rfl := Option.some.inj H
     go_wp2
     repeat (go_quiet (fail); try go_wp2)
     go_ret
     exact ⟨_, by first | rfl | (simp [errW_none, errW_some] <;> rfl) | (simp only [← hji3]; first | rfl | (simp [errW_none, errW_some] <;> rfl)) | (simp [*, errW_none, errW_some] <;> rfl), kR_ HO_5, bl_⟩
   have c8b0 : decide (x6_1 < (l0.length : Int)) = true := decide_eq_true c8
   clear c8
   replace H := inc_ H; obtain ⟨c9, H⟩ := H
   have c9b0 : decide (0 ≤ x6_1) = true := decide_eq_true c9
   clear c9
   have H' := Aside0.mk H; clear H
   have p356 : 0 ≤ (x6_1 : Int) := od_
   have q356 : x6_1 < (l0.length : Int) := od_
   obtain ⟨ad356, A356_1, c356_1, e356, hx356_0, hx356_1, hl356_1, hi356_1⟩ := at_T42 HR0.out x6_1 p356 q356
   cases e356
   replace hx356_0 := hc_ HB hx356_0
   replace hx356_1 := hc_ HB hx356_1
   have HR356_1 := Aside0.mk hi356_1
   have HC356_1 := Aside0.mk hl356_1
   clear hi356_1 hl356_1
   replace p356 := eq_true p356; replace q356 := eq_true q356
   go_wp2
   repeat (go_quiet (fail); try go_wp2)
   go_loopg [8] k1 (fun kq v8 w' => ∃ (x5_2 : List Int) (x8_2 : Int), v8 = .int .i64 x8_2 ∧ Aside0 (spec_l9Marks.l1 kq l0 a1 x5_2 x6_1 (((rd_T42 l0 x6_1).f0).size : Int) x8_2 = some r) ∧ Aside0 (kq ≤ k1) ∧ Aside0 (Kd.R (Kd.int .i64) 3 w' w.heap.size (fun _ => True) v354 x5_2) ∧ Aside0 (Below w.heap.size w w'))
   case atStart => exact ⟨(x5_1), (0), rf_, H', ⟨Nat.le_refl _⟩, ⟨kR_ HO_5⟩, ⟨bl_⟩⟩
   case round =>
    clear H'
    (try clear p2);(try clear c3);(try clear p3);(try clear q3);(try clear hx3);(try clear c4);(try clear c4b0);(try clear c4b1);(try clear c5);(try clear c5b0);(try clear c5b1);(try clear p6);(try clear c8);(try clear c8b0);(try clear c9);(try clear c9b0);(try clear hx356_0);(try clear hx356_1);(try clear p2);(try clear p356);(try clear p6);(try clear q356)
    obtain ⟨x5_2, x8_2, rfl, HA, HK2, HO_5, HB⟩ := hrel
    cases gk with
    | zero => exact absurd HA.out (by simp [spec_l9Marks.l1])
    | succ k2 =>
     have H := HA.out
     clear HA
     simp only [spec_l9Marks.l1] at H
     replace H := iucd_ H; rcases H with ⟨c10b0, H⟩ | ⟨c10, H⟩
     · have H' := Aside0.mk H
       clear H
       go_wp2
       repeat (go_quiet (fail); try go_wp2)
       go_roundg k2
       case measure => have := HK1.out; have := HK2.out; omega
       case rel => exact ⟨(x5_2), (wrap64 (x6_1 + 1)), rf_, H', ⟨by have := HK1.out; have := HK2.out; omega⟩, ⟨kR_ HO_5⟩, ⟨bl_⟩⟩
     have c10b0 : decide ((wrap64 (x8_2 + (((rd_T42 l0 x6_1).f0).size : Int))) ≤ (a1.size : Int)) = true := decide_eq_true c10
     clear c10
     have H' := Aside0.mk H; clear H
     go_wp2
     repeat (go_quiet (fail); try go_wp2)
     go_loopg [9] k2 (fun kq v9 w' => ∃ (x5_3 : List Int) (x9_3 : Int), v9 = .int .i64 x9_3 ∧ Aside0 (spec_l9Marks.l2 kq l0 a1 x5_3 x6_1 (((rd_T42 l0 x6_1).f0).size : Int) x8_2 x9_3 = some r) ∧ Aside0 (kq ≤ k2) ∧ Aside0 (Kd.R (Kd.int .i64) 3 w' w.heap.size (fun _ => True) v354 x5_3) ∧ Aside0 (Below w.heap.size w w'))
     case atStart => exact ⟨(x5_2), (0), rf_, H', ⟨Nat.le_refl _⟩, ⟨kR_ HO_5⟩, ⟨bl_⟩⟩
     case round =>
      clear H'
      (try clear c1);(try clear p2);(try clear c3);(try clear p3);(try clear q3);(try clear hx3);(try clear c4);(try clear c4b0);(try clear c4b1);(try clear c5);(try clear c5b0);(try clear c5b1);(try clear p6);(try clear c8);(try clear c8b0);(try clear c9);(try clear c9b0);(try clear c10);(try clear c10b0);(try clear hx356_0);(try clear hx356_1);(try clear p2);(try clear p3);(try clear p356);(try clear p6);(try clear q3);(try clear q356)
      obtain ⟨x5_3, x9_3, rfl, HA, HK3, HO_5, HB⟩ := hrel
      cases gk with
      | zero => exact absurd HA.out (by simp [spec_l9Marks.l2])
      | succ k3 =>
       have H := HA.out
       clear HA
       simp only [spec_l9Marks.l2] at H
       have HC11 := Aside0.mk H
       clear H
       go_upto_region 10 with (fail)
       repeat (go_quiet (fail); go_upto_region 10 with (fail))
       go_cut [50] (fun v50 wc => ∃ (kq : Nat) (x50_10 : Bool), v50 = .bool x50_10 ∧ Aside0 (spec_l9Marks.j3 kq l0 a1 x5_3 x6_1 (((rd_T42 l0 x6_1).f0).size : Int) x8_2 x9_3 x50_10 = some r) ∧ Aside0 (kq ≤ k3) ∧ Aside0 (Kd.R (Kd.int .i64) 3 wc w.heap.size (fun _ => True) v354 x5_3) ∧ Aside0 (Below w.heap.size w wc))
       case first =>
        have H := HC11.out
        clear HC11
        replace H := iudd_ H; rcases H with ⟨c12b0, H⟩ | ⟨c12b0, H⟩
        · (first | rw [c12b0] | (simp only [i64_w, i32_w]; rw [c12b0]) | skip)
          have H' := Aside0.mk H; clear H
          go_wp2
          repeat (go_quiet (fail); try go_wp2)
          go_meet
          case rel => exact ⟨_, (false), rf_, H', ⟨by have := HK1.out; have := HK2.out; have := HK3.out; first | omega | exact Nat.le_refl _⟩, ⟨kR_ HO_5⟩, ⟨bl_⟩⟩
        (first | rw [c12b0] | (simp only [i64_w, i32_w]; rw [c12b0]) | skip)
        replace H := inc_ H; obtain ⟨c13, H⟩ := H
        have c13b0 := eq_true c13
        have c13b1 : decide (0 ≤ x8_2) = true := decide_eq_true c13
        clear c13
        replace H := inc_ H; obtain ⟨c14, H⟩ := H
        have c14b0 := eq_true c14
        have c14b1 : decide (x8_2 ≤ (wrap64 (x8_2 + (((rd_T42 l0 x6_1).f0).size : Int)))) = true := decide_eq_true c14
        replace H := inc_ H; obtain ⟨c15, H⟩ := H
        have c15b0 := eq_true c15
        have c15b1 : decide ((wrap64 (x8_2 + (((rd_T42 l0 x6_1).f0).size : Int))) ≤ (a1.size : Int)) = true := decide_eq_true c15
        replace H := ind_ H; obtain ⟨c16b0, H⟩ := H
        replace H := ind_ H; obtain ⟨c17b0, H⟩ := H
        have H' := Aside0.mk H; clear H
        have p357 : 0 ≤ (x6_1 : Int) := od_
        have q357 : x6_1 < (l0.length : Int) := od_
        obtain ⟨ad357, A357_1, c357_1, e357, hx357_0, hx357_1, hl357_1, hi357_1⟩ := at_T42 HR0.out x6_1 p357 q357
        obtain rfl : ad356 = ad357 := (by injection e357)
        replace hx357_0 := hc_ HB hx357_0
        replace hx357_1 := hc_ HB hx357_1
        have HR357_1 := Aside0.mk hi357_1
        have HC357_1 := Aside0.mk hl357_1
        clear hi357_1 hl357_1
        replace p357 := eq_true p357; replace q357 := eq_true q357
        go_wp2
        repeat (go_quiet (fail); try go_wp2)
        go_meet
        case rel => exact ⟨_, (((a1.extract (x8_2 : Int).toNat ((wrap64 (x8_2 + (((rd_T42 l0 x6_1).f0).size : Int))) : Int).toNat).toList == ((rd_T42 l0 x6_1).f0).toList)), rf_, H', ⟨by have := HK1.out; have := HK2.out; have := HK3.out; first | omega | exact Nat.le_refl _⟩, ⟨kR_ HO_5⟩, ⟨bl_⟩⟩
       case rest =>
        clear HC11
        (try clear c1);(try clear p2);(try clear c3);(try clear p3);(try clear q3);(try clear hx3);(try clear c4);(try clear c4b0);(try clear c4b1);(try clear c5);(try clear c5b0);(try clear c5b1);(try clear p6);(try clear c8);(try clear c8b0);(try clear c9);(try clear c9b0);(try clear c10);(try clear c10b0);(try clear c12);(try clear c12b0);(try clear c13);(try clear c13b0);(try clear c13b1);(try clear c14);(try clear c14b0);(try clear c14b1);(try clear c15);(try clear c15b0);(try clear c15b1);(try clear c16);(try clear c16b0);(try clear c17);(try clear c17b0);(try clear hx356_0);(try clear hx356_1);(try clear hx357_0);(try clear hx357_1);(try clear p2);(try clear p3);(try clear p356);(try clear p357);(try clear p6);(try clear q3);(try clear q356);(try clear q357)
        obtain ⟨kq, x50_10, rfl, HA, HJ10, HO_5, HB⟩ := hcut
        cases kq with
        | zero => exact absurd HA.out (by simp [spec_l9Marks.j3])
        | succ kj10 =>
         have H := HA.out
         clear HA
         simp only [spec_l9Marks.j3] at H
         replace H := iub_ H; rcases H with ⟨rfl, H⟩ | ⟨rfl, H⟩
         · have H' := Aside0.mk H
           clear H
           go_wp2
           repeat (go_quiet (fail); try go_wp2)
           go_roundg kj10
           case measure => have := HK1.out; have := HK2.out; have := HK3.out; have := HJ10.out; omega
           case rel => exact ⟨(x5_3), (wrap64 (x8_2 + 1)), rf_, H', ⟨by have := HK1.out; have := HK2.out; have := HK3.out; have := HJ10.out; omega⟩, ⟨kR_ HO_5⟩, ⟨bl_⟩⟩
         replace H := ind_ H; obtain ⟨c19b0, H⟩ := H
         replace H := ind_ H; obtain ⟨c20b0, H⟩ := H
         replace H := ind_ H; obtain ⟨c21b0, H⟩ := H
         replace H := ind_ H; obtain ⟨c22b0, H⟩ := H
         obtain ⟨ji23, hji23⟩ : ∃ j_ : Int, (wrap64 (x8_2 + x9_3)) = j_ := ⟨_, rfl⟩
         replace H : (if 0 ≤ (ji23) then (if (ji23) < (x5_3.length : Int) then (if (rd ((rd_T42 l0 x6_1).f1) x9_3) > (rd x5_3 (ji23)) then (spec_l9Marks.l2 kj10 l0 a1 (x5_3.set ((ji23) : Int).toNat (rd ((rd_T42 l0 x6_1).f1) x9_3)) x6_1 (((rd_T42 l0 x6_1).f0).size : Int) x8_2 (wrap64 (x9_3 + 1))) else (spec_l9Marks.l2 kj10 l0 a1 x5_3 x6_1 (((rd_T42 l0 x6_1).f0).size : Int) x8_2 (wrap64 (x9_3 + 1)))) else (none)) else (none)) = some r := by first | (rw [hji23] at H; exact H) | (simp only [hji23] at H ⊢; exact H)
         have hji23w : (IntKind.i64.wrap (x8_2 + x9_3)) = ji23 := (i64_w _).trans hji23
         replace H := ind_ H; obtain ⟨c24b0, H⟩ := H
         replace H := ind_ H; obtain ⟨c25b0, H⟩ := H
         replace H := iucc_ H; rcases H with ⟨c26, H⟩ | ⟨c26, H⟩
         · have c26b0 : decide ((rd x5_3 (ji23)) < (rd ((rd_T42 l0 x6_1).f1) x9_3)) = false := decide_eq_false c26
           clear c26
           have H' := Aside0.mk H; clear H
           have p358 : 0 ≤ (x6_1 : Int) := od_
           have q358 : x6_1 < (l0.length : Int) := od_
           obtain ⟨ad358, A358_1, c358_1, e358, hx358_0, hx358_1, hl358_1, hi358_1⟩ := at_T42 HR0.out x6_1 p358 q358
           obtain rfl : ad356 = ad358 := (by injection e358)
           replace hx358_0 := hc_ HB hx358_0
           replace hx358_1 := hc_ HB hx358_1
           have HR358_1 := Aside0.mk hi358_1
           have HC358_1 := Aside0.mk hl358_1
           clear hi358_1 hl358_1
           replace p358 := eq_true p358; replace q358 := eq_true q358
           have p359 : 0 ≤ (x9_3 : Int) := od_
           have q359 : x9_3 < (((rd_T42 l0 x6_1).f1).length : Int) := od_
           obtain ⟨ad359, e359, hx359_0⟩ := Kd.at_int HR358_1.out x9_3 p359 q359
           cases e359
           replace hx359_0 := hc_ HB hx359_0
           replace p359 := eq_true p359; replace q359 := eq_true q359
           obtain ⟨Ao31, co31, eo31⟩ := Kd.R_slice HO_5.out
           subst eo31
           have p360 : 0 ≤ ((ji23) : Int) := od_
           have q360 : (ji23) < (x5_3.length : Int) := od_
           obtain ⟨ad360, e360, hx360_0⟩ := Kd.at_int (Kd.R_reads' HO_5.out).2.2 (ji23) p360 q360
           cases e360
           replace p360 := eq_true p360; replace q360 := eq_true q360
           go_wp2
           repeat (go_quiet (fail); try go_wp2)
           go_roundg kj10
           case measure => have := HK1.out; have := HK2.out; have := HK3.out; have := HJ10.out; omega
           case rel => exact ⟨(x5_3), (wrap64 (x9_3 + 1)), rf_, H', ⟨by have := HK1.out; have := HK2.out; have := HK3.out; have := HJ10.out; omega⟩, ⟨kR_ HO_5⟩, ⟨bl_⟩⟩
         have c26b0 : decide ((rd x5_3 (ji23)) < (rd ((rd_T42 l0 x6_1).f1) x9_3)) = true := decide_eq_true c26
         clear c26
         obtain ⟨y363, hy_⟩ : ∃ y_ : List Int, y_ = (x5_3.set ((ji23) : Int).toNat (rd ((rd_T42 l0 x6_1).f1) x9_3)) := ⟨_, rfl⟩
         replace H : (spec_l9Marks.l2 kj10 l0 a1 y363 x6_1 (((rd_T42 l0 x6_1).f0).size : Int) x8_2 (wrap64 (x9_3 + 1))) = some r := ry_
         have Ny363 := Aside0.mk hy_; clear hy_
         have H' := Aside0.mk H; clear H
         have p358 : 0 ≤ (x6_1 : Int) := od_
         have q358 : x6_1 < (l0.length : Int) := od_
         obtain ⟨ad358, A358_1, c358_1, e358, hx358_0, hx358_1, hl358_1, hi358_1⟩ := at_T42 HR0.out x6_1 p358 q358
         obtain rfl : ad356 = ad358 := (by injection e358)
         replace hx358_0 := hc_ HB hx358_0
         replace hx358_1 := hc_ HB hx358_1
         have HR358_1 := Aside0.mk hi358_1
         have HC358_1 := Aside0.mk hl358_1
         clear hi358_1 hl358_1
         replace p358 := eq_true p358; replace q358 := eq_true q358
         have p359 : 0 ≤ (x9_3 : Int) := od_
         have q359 : x9_3 < (((rd_T42 l0 x6_1).f1).length : Int) := od_
         obtain ⟨ad359, e359, hx359_0⟩ := Kd.at_int HR358_1.out x9_3 p359 q359
         cases e359
         replace hx359_0 := hc_ HB hx359_0
         replace p359 := eq_true p359; replace q359 := eq_true q359
         obtain ⟨Ao28, co28, eo28⟩ := Kd.R_slice HO_5.out
         subst eo28
         have p360 : 0 ≤ ((ji23) : Int) := od_
         have q360 : (ji23) < (x5_3.length : Int) := od_
         obtain ⟨ad360, e360, hx360_0⟩ := Kd.at_int (Kd.R_reads' HO_5.out).2.2 (ji23) p360 q360
         cases e360
         replace p360 := eq_true p360; replace q360 := eq_true q360
         have p361 : 0 ≤ (x6_1 : Int) := od_
         have q361 : x6_1 < (l0.length : Int) := od_
         obtain ⟨ad361, A361_1, c361_1, e361, hx361_0, hx361_1, hl361_1, hi361_1⟩ := at_T42 HR0.out x6_1 p361 q361
         obtain rfl : ad356 = ad361 := (by injection e361)
         replace hx361_0 := hc_ HB hx361_0
         replace hx361_1 := hc_ HB hx361_1
         have HR361_1 := Aside0.mk hi361_1
         have HC361_1 := Aside0.mk hl361_1
         clear hi361_1 hl361_1
         replace p361 := eq_true p361; replace q361 := eq_true q361
         have ea_ := Option.some.inj (hx358_1.symm.trans hx361_1)
         injection ea_ with ea_ en_ ec_
         subst ea_
         subst ec_
         clear en_
         have p362 : 0 ≤ (x9_3 : Int) := od_
         have q362 : x9_3 < (((rd_T42 l0 x6_1).f1).length : Int) := od_
         obtain ⟨ad362, e362, hx362_0⟩ := Kd.at_int HR361_1.out x9_3 p362 q362
         cases e362
         replace hx362_0 := hc_ HB hx362_0
         replace p362 := eq_true p362; replace q362 := eq_true q362
         have p27 : 0 ≤ ((ji23) : Int) := od_
         have q27 : ((ji23) : Int) < ((x5_3.length : Int) : Int) := od_
         obtain ⟨go27, co27, eo27, gb27, gl27, cl27, HG27⟩ := Kd.R_form HO_5.out (by omega)
         (first | cases eo27 | (injection eo27 with ea_ en_ ec_; (first | subst ea_ | (injection ea_ with ea_; subst ea_)); subst ec_; clear en_))
         have GB27 := Aside0.mk gb27
         have GG27 := Aside0.mk HG27
         clear gb27 gl27 HG27
         (first | simp only [add_plain] at hx360_0 | skip)
         obtain ⟨hx27_0, hf27_0⟩ := Kd.R_celln 0 HO_5.out ((ji23) : Int) p27 q27
         replace p27 := eq_true p27; replace q27 := eq_true q27
         have HP29 := Kd.R_putg HO_5.out ((ji23) : Int) (rd ((rd_T42 l0 x6_1).f1) x9_3)
         go_wp2_with (first | ((with_reducible refine gate_store (t := 3) (p := 80) rfl ?_); (try (rw [drewN_self wc]; generalize hq_ : World.drewN wc _ = wc; have n0_ := Aside0.mk (Kd.R_at hq_ HO_5.out); have n1_ := Aside0.mk (below_at hq_ HB.out); clear hq_ HO_5 HB; have HO_5 := n0_; have HB := n1_; clear n0_ n1_; (try (obtain ⟨hx27_0, hf27_0⟩ := Kd.R_celln 0 HO_5.out ((ji23) : Int) (of_eq_true p27) (of_eq_true q27))); (try (have HP29 := Kd.R_putg HO_5.out ((ji23) : Int) (rd ((rd_T42 l0 x6_1).f1) x9_3))))); refine store_event (t := 3) (p := 80) (v := ?vo_w30) (w1 := (wc.setCell ⟨go27, ((ji23) : Int).toNat, none⟩ (.int .i64 (rd ((rd_T42 l0 x6_1).f1) x9_3)))) ?hg ?ho ?hn ?hr ?_; (case ho => rfl); (case hg => rfl); (case hn => rfl); (case hr => first | (go_simp; done) | (go_simp; rfl)); intro w30 hw; have hg : wc.grownBy w30 (some go27) := (by rw [hw]; exact HP29.2); have hp_ : Kd.R (Kd.int .i64) 3 w30 w.heap.size (fun _ => True) (.slice (some ⟨go27, 0, none⟩) x5_3.length co28) y363 := (by rw [hw, Ny363.out]; exact HP29.1); clear HP29; replace HO_5 := Aside0.mk (hp_); replace HB := Aside0.mk ((by rw [hw]; exact below_set (HB.out) GB27.out : Below w.heap.size w w30)); clear hg hw hp_))
         repeat (go_quiet (first | ((with_reducible refine gate_store (t := 3) (p := 80) rfl ?_); (try (rw [drewN_self wc]; generalize hq_ : World.drewN wc _ = wc; have n0_ := Aside0.mk (Kd.R_at hq_ HO_5.out); have n1_ := Aside0.mk (below_at hq_ HB.out); clear hq_ HO_5 HB; have HO_5 := n0_; have HB := n1_; clear n0_ n1_; (try (obtain ⟨hx27_0, hf27_0⟩ := Kd.R_celln 0 HO_5.out ((ji23) : Int) (of_eq_true p27) (of_eq_true q27))); (try (have HP29 := Kd.R_putg HO_5.out ((ji23) : Int) (rd ((rd_T42 l0 x6_1).f1) x9_3))))); refine store_event (t := 3) (p := 80) (v := ?vo_w30) (w1 := (wc.setCell ⟨go27, ((ji23) : Int).toNat, none⟩ (.int .i64 (rd ((rd_T42 l0 x6_1).f1) x9_3)))) ?hg ?ho ?hn ?hr ?_; (case ho => rfl); (case hg => rfl); (case hn => rfl); (case hr => first | (go_simp; done) | (go_simp; rfl)); intro w30 hw; have hg : wc.grownBy w30 (some go27) := (by rw [hw]; exact HP29.2); have hp_ : Kd.R (Kd.int .i64) 3 w30 w.heap.size (fun _ => True) (.slice (some ⟨go27, 0, none⟩) x5_3.length co28) y363 := (by rw [hw, Ny363.out]; exact HP29.1); clear HP29; replace HO_5 := Aside0.mk (hp_); replace HB := Aside0.mk ((by rw [hw]; exact below_set (HB.out) GB27.out : Below w.heap.size w w30)); clear hg hw hp_)); try go_wp2_with (first | ((with_reducible refine gate_store (t := 3) (p := 80) rfl ?_); (try (rw [drewN_self wc]; generalize hq_ : World.drewN wc _ = wc; have n0_ := Aside0.mk (Kd.R_at hq_ HO_5.out); have n1_ := Aside0.mk (below_at hq_ HB.out); clear hq_ HO_5 HB; have HO_5 := n0_; have HB := n1_; clear n0_ n1_; (try (obtain ⟨hx27_0, hf27_0⟩ := Kd.R_celln 0 HO_5.out ((ji23) : Int) (of_eq_true p27) (of_eq_true q27))); (try (have HP29 := Kd.R_putg HO_5.out ((ji23) : Int) (rd ((rd_T42 l0 x6_1).f1) x9_3))))); refine store_event (t := 3) (p := 80) (v := ?vo_w30) (w1 := (wc.setCell ⟨go27, ((ji23) : Int).toNat, none⟩ (.int .i64 (rd ((rd_T42 l0 x6_1).f1) x9_3)))) ?hg ?ho ?hn ?hr ?_; (case ho => rfl); (case hg => rfl); (case hn => rfl); (case hr => first | (go_simp; done) | (go_simp; rfl)); intro w30 hw; have hg : wc.grownBy w30 (some go27) := (by rw [hw]; exact HP29.2); have hp_ : Kd.R (Kd.int .i64) 3 w30 w.heap.size (fun _ => True) (.slice (some ⟨go27, 0, none⟩) x5_3.length co28) y363 := (by rw [hw, Ny363.out]; exact HP29.1); clear HP29; replace HO_5 := Aside0.mk (hp_); replace HB := Aside0.mk ((by rw [hw]; exact below_set (HB.out) GB27.out : Below w.heap.size w w30)); clear hg hw hp_)))
         go_roundg kj10
         case measure => have := HK1.out; have := HK2.out; have := HK3.out; have := HJ10.out; omega
         case rel => exact ⟨(y363), (wrap64 (x9_3 + 1)), rf_, H', ⟨by have := HK1.out; have := HK2.out; have := HK3.out; have := HJ10.out; omega⟩, ⟨kR_ HO_5⟩, ⟨bl_⟩⟩

end Go.Proofs.YtlmbmfnimpjgmaaDoor.P
