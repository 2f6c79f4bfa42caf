-- Written by a program of this session (wip/gen/gen.py) out of Lean's print of the loaded program; Lean checks it.
import Derived.Test.YtlmbmfnimpjgmaaDoorP0
import Derived.Test.YtlmbmfnimpjgmaaDoorSq2
import Derived.Test.YtlmbmfnimpjgmaaDoorExtSplit
import Derived.Test.YtlmbmfnimpjgmaaDoorTab
namespace Go.Proofs.YtlmbmfnimpjgmaaDoor.P
open Go.RowKit Go.Proofs.YtlmbmfnimpjgmaaDoorW.PrintWords Go.Proofs.YtlmbmfnimpjgmaaDoorW.PrintLast Go.Proofs.YtlmbmfnimpjgmaaDoorW.PrintMore
attribute [local go_sem] max2_int min2_int max_two min_two max_three min_three max_four min_four IntKind.wrap_u8 IntKind.wrap_u32 w64_256 w64_u32
set_option maxHeartbeats 8000000
set_option maxRecDepth 100000
set_option linter.unusedVariables false
set_option linter.unusedSimpArgs false

/-! ### laws_mdTexts: function 14 -/
def laws_mdTexts.l0 : Nat → List ByteArray → List ByteArray → Int → Option (Bool)
 | 0, _, _, _ => none
 | k + 1, x0, x1, x5 => if x5 < (x0.length : Int) then (if 0 ≤ x5 then (if x5 < (x1.length : Int) then (if (rdOf ByteArray.empty x0 x5).toList = (rdOf ByteArray.empty x1 x5).toList then (laws_mdTexts.l0 k x0 x1 (wrap64 (x5 + 1))) else (some false)) else (none)) else (none)) else (some true)
def laws_mdTexts.f (k : Nat) (l0 : List ByteArray) (l1 : List ByteArray) : Option (Bool) := if (l0.length : Int) = (l1.length : Int) then (laws_mdTexts.l0 k l0 l1 0) else (some false)
theorem laws_mdTexts.mono_l : ∀ k, (∀ y0 y1 y2, LeO (laws_mdTexts.l0 k y0 y1 y2) (laws_mdTexts.l0 (k + 1) y0 y1 y2))
 | 0 => fun _ _ _ r h => by simp [laws_mdTexts.l0] at h
 | k + 1 => by
  have ih0 := laws_mdTexts.mono_l k
  · intro y0 y1 y2
    unfold laws_mdTexts.l0
    exact mn_
theorem laws_mdTexts.mono : ∀ a0 a1 k, LeO (laws_mdTexts.f k a0 a1) (laws_mdTexts.f (k + 1) a0 a1) := by
 intro a0 a1 k
 have ih0 := laws_mdTexts.mono_l k
 unfold laws_mdTexts.f
 exact mn_
theorem laws_mdTexts.calls (k : Nat) (A0 : Option Addr) (c0 : Nat) (l0 : List ByteArray) (A1 : Option Addr) (c1 : Nat) (l1 : List ByteArray) (r : Bool) (w : World) (hr0 : Kd.C Kd.string w A0 l0.length l0) (hc0 : l0.length ≤ c0) (hr1 : Kd.C Kd.string w A1 l1.length l1) (hc1 : l1.length ≤ c1) (h : laws_mdTexts.f k l0 l1 = some r) :
 Calls Tryd.prog 14 #[.slice A0 l0.length c0, .slice A1 l1.length c1] w fun e w' => e = .returned (.bool r) ∧ Drawn0 w w' := by
 have HR0 := Aside0.mk hr0
 have HC0 := Aside0.mk hc0
 clear hr0 hc0
 have HR1 := Aside0.mk hr1
 have HC1 := Aside0.mk hc1
 clear hr1 hc1
 unfold laws_mdTexts.f at h; have H := h; clear h
 replace H := iucc_ H; rcases H with ⟨c3, H⟩ | ⟨c3, H⟩
 · have c3b0 : ((l0.length : Int) == (l1.length : Int)) = false := beq_eq_false_iff_ne.mpr c3
   have c3b1 : ((l0.length : Int) != (l1.length : Int)) = true := bne_iff_ne.mpr c3
   have c3b2 : (l0.length == l1.length) = false := by first | simpa using c3 | (simp at c3 ⊢; omega)
   obtain rfl := Option.some.inj H
   go_enter Tryd.func14, Tryd.ntmps14
   go_wp2
   repeat (go_quiet (fail); try go_wp2)
   go_ret
   exact ⟨rf_, dr_⟩
 have c3b0 : ((l0.length : Int) == (l1.length : Int)) = true := beq_iff_eq.mpr c3
 have c3b1 : ((l0.length : Int) != (l1.length : Int)) = false := bne_eq_false_iff_eq.mpr c3
 have c3b2 : (l0.length == l1.length) = true := by first | simpa using c3 | (simp at c3 ⊢; omega)
 clear c3
 have H' := Aside0.mk H; clear H
 go_enter Tryd.func14, Tryd.ntmps14
 go_wp2
 repeat (go_quiet (fail); try go_wp2)
 go_loopg [5] k (fun kq v5 w' => ∃ (x5_1 : Int), v5 = .int .i64 x5_1 ∧ Aside0 (laws_mdTexts.l0 kq l0 l1 x5_1 = some r) ∧ Aside0 (kq ≤ k) ∧ Drawn0 w w')
 case atStart => exact ⟨(0), rf_, H', ⟨Nat.le_refl _⟩, dr_⟩
 case round =>
  clear H'
  (try clear c1);(try clear p2);(try clear c3);(try clear c3b0);(try clear c3b1);(try clear c3b2)
  obtain ⟨x5_1, rfl, HA, HK1, ⟨m1, rfl⟩⟩ := hrel
  cases gk with
  | zero => exact absurd HA.out (by simp [laws_mdTexts.l0])
  | succ k1 =>
   have H := HA.out
   clear HA
   simp only [laws_mdTexts.l0] at H
   replace H := iudd_ H; rcases H with ⟨c4b0, H⟩ | ⟨c4b0, H⟩
   · obtain rfl := Option.some.inj H
     go_wp2
     repeat (go_quiet (fail); try go_wp2)
     go_ret
     exact ⟨rf_, dr_⟩
   replace H := ind_ H; obtain ⟨c5b0, H⟩ := H
   replace H := ind_ H; obtain ⟨c6b0, H⟩ := H
   replace H := iucc_ H; rcases H with ⟨c7, H⟩ | ⟨c7, H⟩
   · have c7b0 : ((rdOf ByteArray.empty l0 x5_1).toList == (rdOf ByteArray.empty l1 x5_1).toList) = false := beq_eq_false_iff_ne.mpr c7
     have c7b1 : ((rdOf ByteArray.empty l0 x5_1).toList != (rdOf ByteArray.empty l1 x5_1).toList) = true := bne_iff_ne.mpr c7
     obtain rfl := Option.some.inj H
     have p420 : 0 ≤ (x5_1 : Int) := od_
     have q420 : x5_1 < (l0.length : Int) := od_
     obtain ⟨ad420, e420, hx420_0⟩ := Kd.at_string HR0.out x5_1 p420 q420
     cases e420
     replace p420 := eq_true p420; replace q420 := eq_true q420
     have p421 : 0 ≤ (x5_1 : Int) := od_
     have q421 : x5_1 < (l1.length : Int) := od_
     obtain ⟨ad421, e421, hx421_0⟩ := Kd.at_string HR1.out x5_1 p421 q421
     cases e421
     replace p421 := eq_true p421; replace q421 := eq_true q421
     go_wp2
     repeat (go_quiet (fail); try go_wp2)
     go_ret
     exact ⟨rf_, dr_⟩
   have c7b0 : ((rdOf ByteArray.empty l0 x5_1).toList == (rdOf ByteArray.empty l1 x5_1).toList) = true := beq_iff_eq.mpr c7
   have c7b1 : ((rdOf ByteArray.empty l0 x5_1).toList != (rdOf ByteArray.empty l1 x5_1).toList) = false := bne_eq_false_iff_eq.mpr c7
   clear c7
   have H' := Aside0.mk H; clear H
   have p420 : 0 ≤ (x5_1 : Int) := od_
   have q420 : x5_1 < (l0.length : Int) := od_
   obtain ⟨ad420, e420, hx420_0⟩ := Kd.at_string HR0.out x5_1 p420 q420
   cases e420
   replace p420 := eq_true p420; replace q420 := eq_true q420
   have p421 : 0 ≤ (x5_1 : Int) := od_
   have q421 : x5_1 < (l1.length : Int) := od_
   obtain ⟨ad421, e421, hx421_0⟩ := Kd.at_string HR1.out x5_1 p421 q421
   cases e421
   replace p421 := eq_true p421; replace q421 := eq_true q421
   go_wp2
   repeat (go_quiet (fail); try go_wp2)
   go_roundg k1
   case measure => have := HK1.out; omega
   case rel => exact ⟨(wrap64 (x5_1 + 1)), rf_, H', ⟨by have := HK1.out; omega⟩, dr_⟩

-- extern: function 33 (strings_Split), see ExtSplit
/-! ### stringslite_HasSuffix: function 50 -/
def stringslite_HasSuffix.f (a0 : ByteArray) (a1 : ByteArray) : Option (Bool) := if (a0.size : Int) ≥ (a1.size : Int) then (if 0 ≤ (wrap64 ((a0.size : Int) - (a1.size : Int))) then (if (wrap64 ((a0.size : Int) - (a1.size : Int))) ≤ (a0.size : Int) then (some ((a0.extract ((wrap64 ((a0.size : Int) - (a1.size : Int))) : Int).toNat a0.size).toList == a1.toList)) else (none)) else (none)) else (some false)
theorem stringslite_HasSuffix.calls (a0 : ByteArray) (a1 : ByteArray) (r : Bool) (w : World) (h : stringslite_HasSuffix.f a0 a1 = some r) :
 Calls Tryd.prog 50 #[.string a0, .string a1] w fun e w' => e = .returned (.bool r) ∧ Drawn0 w w' := by
 unfold stringslite_HasSuffix.f at h; have H := h; clear h
 replace H := iucc_ H; rcases H with ⟨c3, H⟩ | ⟨c3, H⟩
 · have c3b0 : decide ((a1.size : Int) ≤ (a0.size : Int)) = false := decide_eq_false c3
   have c3b1 : decide (a1.size ≤ a0.size) = false := decide_eq_false (fun h => c3 (Int.ofNat_le.mpr h))
   clear c3
   obtain rfl := Option.some.inj H
   go_enter Tryd.func50, Tryd.ntmps50
   go_wp2
   go_ret
   exact ⟨rf_, dr_⟩
 have c3b0 : decide ((a1.size : Int) ≤ (a0.size : Int)) = true := decide_eq_true c3
 have c3b1 : decide (a1.size ≤ a0.size) = true := decide_eq_true (Int.ofNat_le.mp c3)
 clear c3
 obtain ⟨ji4, hji4⟩ : ∃ j_ : Int, (wrap64 ((a0.size : Int) - (a1.size : Int))) = j_ := ⟨_, rfl⟩
 replace H : (if 0 ≤ (ji4) then (if (ji4) ≤ (a0.size : Int) then (some ((a0.extract ((ji4) : Int).toNat a0.size).toList == a1.toList)) else (none)) else (none)) = some r := by first | (rw [hji4] at H; exact H) | (simp only [hji4] at H ⊢; exact H)
 have hji4w : (IntKind.i64.wrap ((a0.size : Int) - (a1.size : Int))) = ji4 := (i64_w _).trans hji4
 replace H := inc_ H; obtain ⟨c5, H⟩ := H
 have c5b0 := eq_true c5
 have c5b1 : decide (0 ≤ (ji4)) = true := decide_eq_true c5
 clear c5
 replace H := inc_ H; obtain ⟨c6, H⟩ := H
 have c6b0 := eq_true c6
 have c6b1 : decide ((ji4) ≤ (a0.size : Int)) = true := decide_eq_true c6
 clear c6
 obtain rfl := Option.some.inj H
 go_enter Tryd.func50, Tryd.ntmps50
 go_wp2
 go_ret
 exact ⟨by first | rfl | (simp; done) | (simp only [← hji4] <;> (first | rfl | simp)) | (simp [*]; done), dr_⟩

/-! ### strings_HasSuffix: function 34 -/
def strings_HasSuffix.f (a0 : ByteArray) (a1 : ByteArray) : Option (Bool) := (stringslite_HasSuffix.f a0 a1).bind fun t422 => (some t422)
theorem strings_HasSuffix.calls (a0 : ByteArray) (a1 : ByteArray) (r : Bool) (w : World) (h : strings_HasSuffix.f a0 a1 = some r) :
 Calls Tryd.prog 34 #[.string a0, .string a1] w fun e w' => e = .returned (.bool r) ∧ Drawn0 w w' := by
 unfold strings_HasSuffix.f at h; have H := h; clear h
 replace H := Option.bind_eq_some_iff.mp H
 obtain ⟨t422, A30, H⟩ := H; try dsimp -simprocs only at H
 have A3 := Aside0.mk A30
 clear A30
 obtain rfl := Option.some.inj H
 go_enter Tryd.func34, Tryd.ntmps34
 go_wp2_with (first | ((with_reducible refine gate_callee (f := 50) rfl ?_); refine gl_ 7 Tryd.func50 #[.string a0, .string a1] ?_; (with_reducible refine (stringslite_HasSuffix.calls a0 a1 t422 _ A3.out).mono ?_); rintro e w' ⟨rfl, ⟨nd, rfl⟩⟩; refine ⟨_, rfl, ?_⟩))
 go_ret
 exact ⟨rf_, dr_⟩

/-! ### stringslite_TrimSuffix: function 51 -/
def stringslite_TrimSuffix.f (a0 : ByteArray) (a1 : ByteArray) : Option (ByteArray) := (stringslite_HasSuffix.f a0 a1).bind fun t423 => (if t423 = true then (if 0 ≤ (wrap64 ((a0.size : Int) - (a1.size : Int))) then (if (wrap64 ((a0.size : Int) - (a1.size : Int))) ≤ (a0.size : Int) then (some (a0.extract 0 ((wrap64 ((a0.size : Int) - (a1.size : Int))) : Int).toNat)) else (none)) else (none)) else (some a0))
theorem stringslite_TrimSuffix.calls (a0 : ByteArray) (a1 : ByteArray) (r : ByteArray) (w : World) (h : stringslite_TrimSuffix.f a0 a1 = some r) :
 Calls Tryd.prog 51 #[.string a0, .string a1] w fun e w' => e = .returned (.string r) ∧ Drawn0 w w' := by
 unfold stringslite_TrimSuffix.f at h; have H := h; clear h
 replace H := Option.bind_eq_some_iff.mp H
 obtain ⟨t423, A30, H⟩ := H; try dsimp -simprocs only at H
 have A3 := Aside0.mk A30
 clear A30
 replace H := iub_ H; rcases H with ⟨rfl, H⟩ | ⟨rfl, H⟩
 · obtain rfl := Option.some.inj H
   go_enter Tryd.func51, Tryd.ntmps51
   go_wp2_with (first | ((with_reducible refine gate_callee (f := 50) rfl ?_); refine gl_ 7 Tryd.func50 #[.string a0, .string a1] ?_; (with_reducible refine (stringslite_HasSuffix.calls a0 a1 false _ A3.out).mono ?_); rintro e w' ⟨rfl, ⟨nd, rfl⟩⟩; refine ⟨_, rfl, ?_⟩))
   go_ret
   exact ⟨rf_, dr_⟩
 obtain ⟨ji5, hji5⟩ : ∃ j_ : Int, (wrap64 ((a0.size : Int) - (a1.size : Int))) = j_ := ⟨_, rfl⟩
 replace H : (if 0 ≤ (ji5) then (if (ji5) ≤ (a0.size : Int) then (some (a0.extract 0 ((ji5) : Int).toNat)) else (none)) else (none)) = some r := by first | (rw [hji5] at H; exact H) | (simp only [hji5] at H ⊢; exact H)
 (try rw [hji5] at A3)
 have hji5w : (IntKind.i64.wrap ((a0.size : Int) - (a1.size : Int))) = ji5 := (i64_w _).trans hji5
 replace H := inc_ H; obtain ⟨c6, H⟩ := H
 have c6b0 := eq_true c6
 have c6b1 : decide (0 ≤ (ji5)) = true := decide_eq_true c6
 clear c6
 replace H := inc_ H; obtain ⟨c7, H⟩ := H
 have c7b0 := eq_true c7
 have c7b1 : decide ((ji5) ≤ (a0.size : Int)) = true := decide_eq_true c7
 clear c7
 obtain rfl := Option.some.inj H
 go_enter Tryd.func51, Tryd.ntmps51
 go_wp2_with (first | ((with_reducible refine gate_callee (f := 50) rfl ?_); refine gl_ 7 Tryd.func50 #[.string a0, .string a1] ?_; (with_reducible refine (stringslite_HasSuffix.calls a0 a1 true _ A3.out).mono ?_); rintro e w' ⟨rfl, ⟨nd, rfl⟩⟩; refine ⟨_, rfl, ?_⟩))
 go_ret
 exact ⟨by first | rfl | (simp; done) | (simp only [← hji5] <;> (first | rfl | simp)) | (simp [*]; done), dr_⟩

/-! ### strings_TrimSuffix: function 35 -/
def strings_TrimSuffix.f (a0 : ByteArray) (a1 : ByteArray) : Option (ByteArray) := (stringslite_TrimSuffix.f a0 a1).bind fun t424 => (some t424)
theorem strings_TrimSuffix.calls (a0 : ByteArray) (a1 : ByteArray) (r : ByteArray) (w : World) (h : strings_TrimSuffix.f a0 a1 = some r) :
 Calls Tryd.prog 35 #[.string a0, .string a1] w fun e w' => e = .returned (.string r) ∧ Drawn0 w w' := by
 unfold strings_TrimSuffix.f at h; have H := h; clear h
 replace H := Option.bind_eq_some_iff.mp H
 obtain ⟨t424, A30, H⟩ := H; try dsimp -simprocs only at H
 have A3 := Aside0.mk A30
 clear A30
 obtain rfl := Option.some.inj H
 go_enter Tryd.func35, Tryd.ntmps35
 go_wp2_with (first | ((with_reducible refine gate_callee (f := 51) rfl ?_); refine gl_ 7 Tryd.func51 #[.string a0, .string a1] ?_; (with_reducible refine (stringslite_TrimSuffix.calls a0 a1 t424 _ A3.out).mono ?_); rintro e w' ⟨rfl, ⟨nd, rfl⟩⟩; refine ⟨_, rfl, ?_⟩))
 go_ret
 exact ⟨rf_, dr_⟩

/-! ### impl_Unwrap: function 15 -/
def impl_Unwrap.l0 : Nat → List ByteArray → List ByteArray → ByteArray → List ByteArray → Int → Int → Option (List ByteArray)
 | 0, _, _, _, _, _, _ => none
 | k + 1, x0, x3, x4, x10, x11, x12 => if x12 < x11 then (if 0 ≤ x12 then (if x12 < (x10.length : Int) then ((strings_Split.f (rdOf ByteArray.empty x10 x12) (⟨#[32]⟩ : ByteArray)).bind fun t429 => (if 0 < (t429.length : Int) then (if x4.size + (rdOf ByteArray.empty t429 0).size ≤ 9223372036854775807 then ((some (t429.set (0 : Int).toNat (x4 ++ (rdOf ByteArray.empty t429 0)) : List ByteArray)).bind fun y433 => (if x12 < (wrap64 ((x0.length : Int) - 1)) then ((strings_HasSuffix.f (rdOf ByteArray.empty x10 x12) (⟨#[45]⟩ : ByteArray)).bind fun t434 => (if t434 = true then (if 0 ≤ (wrap64 ((t429.length : Int) - 1)) then (if (wrap64 ((t429.length : Int) - 1)) < (t429.length : Int) then ((strings_TrimSuffix.f (rdOf ByteArray.empty y433 (wrap64 ((t429.length : Int) - 1))) (⟨#[45]⟩ : ByteArray)).bind fun t436 => (if (wrap64 ((t429.length : Int) - 1)) ≤ (t429.length : Int) then ((some (y433.take ((wrap64 ((t429.length : Int) - 1)) : Int).toNat : List ByteArray)).bind fun y437 => (if x3.length + y437.length < 8796093022208 then (impl_Unwrap.l0 k x0 (x3 ++ y437) t436 x10 x11 (wrap64 (x12 + 1))) else (none))) else (none))) else (none)) else (none)) else (if x3.length + y433.length < 8796093022208 then (impl_Unwrap.l0 k x0 (x3 ++ y433) (⟨#[]⟩ : ByteArray) x10 x11 (wrap64 (x12 + 1))) else (none)))) else (if x3.length + y433.length < 8796093022208 then (impl_Unwrap.l0 k x0 (x3 ++ y433) (⟨#[]⟩ : ByteArray) x10 x11 (wrap64 (x12 + 1))) else (none)))) else (none)) else (none))) else (none)) else (none)) else (some x3)
def impl_Unwrap.f (k : Nat) (l0 : List ByteArray) : Option (List ByteArray) := impl_Unwrap.l0 k l0 (([] : List ByteArray)) (⟨#[]⟩ : ByteArray) l0 (l0.length : Int) 0
theorem impl_Unwrap.mono_l : ∀ k, (∀ y0 y1 y2 y3 y4 y5, LeO (impl_Unwrap.l0 k y0 y1 y2 y3 y4 y5) (impl_Unwrap.l0 (k + 1) y0 y1 y2 y3 y4 y5))
 | 0 => fun _ _ _ _ _ _ r h => by simp [impl_Unwrap.l0] at h
 | k + 1 => by
  have ih0 := impl_Unwrap.mono_l k
  · intro y0 y1 y2 y3 y4 y5
    unfold impl_Unwrap.l0
    exact mn_
theorem impl_Unwrap.mono : ∀ a0 k, LeO (impl_Unwrap.f k a0) (impl_Unwrap.f (k + 1) a0) := by
 intro a0 k
 have ih0 := impl_Unwrap.mono_l k
 unfold impl_Unwrap.f
 exact mn_
theorem impl_Unwrap.calls (k : Nat) (A0 : Option Addr) (c0 : Nat) (l0 : List ByteArray) (r : List ByteArray) (w : World) (hr0 : Kd.C Kd.string w A0 l0.length l0) (hc0 : l0.length ≤ c0) (hT : Tab w) (h : impl_Unwrap.f k l0 = some r) :
 Calls Tryd.prog 15 #[.slice A0 l0.length c0] w fun e w' => ∃ v0_ : Value, e = .returned (v0_) ∧ Kd.R Kd.string 9 w' w.heap.size (fun _ => True) v0_ r ∧ Below w.heap.size w w' := by
 have HR0 := Aside0.mk hr0
 have HC0 := Aside0.mk hc0
 clear hr0 hc0
 have HTb := Aside0.mk hT
 clear hT
 have HB := Aside0.mk (Below.refl w.heap.size w)
 unfold impl_Unwrap.f at h; have H := h; clear h
 obtain ⟨y425, hy_⟩ : ∃ y_ : List ByteArray, y_ = (([] : List ByteArray)) := ⟨_, rfl⟩
 replace H : (impl_Unwrap.l0 k l0 y425 (⟨#[]⟩ : ByteArray) l0 (l0.length : Int) 0) = some r := ry_
 have Ny425 := Aside0.mk hy_; clear hy_
 have H' := Aside0.mk H; clear H
 go_enter Tryd.func15, Tryd.ntmps15
 go_wp2_with (first | ((with_reducible refine gate_dst (N := 9) rfl ?_); refine rl_ Kd.string 9 9 ([] : List ByteArray) [] ?_; intro v426 w2 ho3 hb hg_ hnew_; clear hg_ hnew_; (first | rw [← Ny425.out] at ho3 | (simp only [Int.reduceToNat] at ho3; rw [← Ny425.out] at ho3)); have HO427 := Aside0.mk (Kd.R_lower ho3 (below_size (bl_))); replace HB := Aside0.mk (below_step (bl_) hb); clear hb ho3))
 go_loopg [3, 4, 12] k (fun kq v3 v4 v12 w' => ∃ (x3_1 : List ByteArray) (x4_1 : ByteArray) (x12_1 : Int), v4 = .string x4_1 ∧ v12 = .int .i64 x12_1 ∧ Aside0 (impl_Unwrap.l0 kq l0 x3_1 x4_1 l0 (l0.length : Int) x12_1 = some r) ∧ Aside0 (kq ≤ k) ∧ Aside0 (Kd.R Kd.string 9 w' w.heap.size (fun _ => True) v3 x3_1) ∧ Aside0 (Below w.heap.size w w'))
 case atStart => exact ⟨(y425), ((⟨#[]⟩ : ByteArray)), (0), rf_, rf_, H', ⟨Nat.le_refl _⟩, ⟨kR_ HO427⟩, ⟨bl_⟩⟩
 case round =>
  clear H'
  (try clear c1);(try clear p2)
  obtain ⟨x3_1, x4_1, x12_1, rfl, rfl, HA, HK1, HO_3, HB⟩ := hrel
  cases gk with
  | zero => exact absurd HA.out (by simp [impl_Unwrap.l0])
  | succ k1 =>
   have H := HA.out
   clear HA
   simp only [impl_Unwrap.l0] at H
   replace H := iudd_ H; rcases H with ⟨c4b0, H⟩ | ⟨c4b0, H⟩
   · obtain rfl := Option.some.inj H
     go_wp2
     go_ret
     exact ⟨_, rfe_, kR_ HO_3, bl_⟩
   replace H := ind_ H; obtain ⟨c5b0, H⟩ := H
   replace H := ind_ H; obtain ⟨c6b0, H⟩ := H
   replace H := Option.bind_eq_some_iff.mp H
   obtain ⟨t429, A70, H⟩ := H; try dsimp -simprocs only at H
   have A7 := Aside0.mk A70
   clear A70
   replace H := inc_ H; obtain ⟨c8, H⟩ := H
   have c8b0 : decide (0 < (t429.length : Int)) = true := decide_eq_true c8
   have c8b1 : decide (0 < t429.length) = true := decide_eq_true (by omega)
   clear c8
   replace H := inc_ H; obtain ⟨c9, H⟩ := H
   have c9b0 := eq_true c9
   have c9b1 : decide (x4_1.size + (rdOf ByteArray.empty t429 0).size ≤ 9223372036854775807) = true := decide_eq_true c9
   try have c9b2 : (9223372036854775807 < x4_1.size + (rdOf ByteArray.empty t429 0).size) = False := eq_false (Nat.not_lt.2 c9)
   obtain ⟨y433, hy_⟩ : ∃ y_ : List ByteArray, y_ = (t429.set (0 : Int).toNat (x4_1 ++ (rdOf ByteArray.empty t429 0))) := ⟨_, rfl⟩
   replace H : (if x12_1 < (wrap64 ((l0.length : Int) - 1)) then ((strings_HasSuffix.f (rdOf ByteArray.empty l0 x12_1) (⟨#[45]⟩ : ByteArray)).bind fun t434 => (if t434 = true then (if 0 ≤ (wrap64 ((t429.length : Int) - 1)) then (if (wrap64 ((t429.length : Int) - 1)) < (t429.length : Int) then ((strings_TrimSuffix.f (rdOf ByteArray.empty y433 (wrap64 ((t429.length : Int) - 1))) (⟨#[45]⟩ : ByteArray)).bind fun t436 => (if (wrap64 ((t429.length : Int) - 1)) ≤ (t429.length : Int) then ((some (y433.take ((wrap64 ((t429.length : Int) - 1)) : Int).toNat : List ByteArray)).bind fun y437 => (if x3_1.length + y437.length < 8796093022208 then (impl_Unwrap.l0 k1 l0 (x3_1 ++ y437) t436 l0 (l0.length : Int) (wrap64 (x12_1 + 1))) else (none))) else (none))) else (none)) else (none)) else (if x3_1.length + y433.length < 8796093022208 then (impl_Unwrap.l0 k1 l0 (x3_1 ++ y433) (⟨#[]⟩ : ByteArray) l0 (l0.length : Int) (wrap64 (x12_1 + 1))) else (none)))) else (if x3_1.length + y433.length < 8796093022208 then (impl_Unwrap.l0 k1 l0 (x3_1 ++ y433) (⟨#[]⟩ : ByteArray) l0 (l0.length : Int) (wrap64 (x12_1 + 1))) else (none))) = some r := ry_
   have Ny433 := Aside0.mk hy_; clear hy_
   replace H := iudd_ H; rcases H with ⟨c11b0, H⟩ | ⟨c11b0, H⟩
   · replace H := inc_ H; obtain ⟨c32, H⟩ := H
     have LMc32 := Aside0.mk c32
     clear c32
     obtain ⟨y446, hy_⟩ : ∃ y_ : List ByteArray, y_ = (x3_1 ++ y433) := ⟨_, rfl⟩
     replace H : (impl_Unwrap.l0 k1 l0 y446 (⟨#[]⟩ : ByteArray) l0 (l0.length : Int) (wrap64 (x12_1 + 1))) = some r := ry_
     have Ny446 := Aside0.mk hy_; clear hy_
     have H' := Aside0.mk H; clear H
     have p428 : 0 ≤ (x12_1 : Int) := od_
     have q428 : x12_1 < (l0.length : Int) := od_
     obtain ⟨ad428, e428, hx428_0⟩ := Kd.at_string HR0.out x12_1 p428 q428
     cases e428
     replace hx428_0 := hc_ HB hx428_0
     replace p428 := eq_true p428; replace q428 := eq_true q428
     go_wp2_with (first | ((with_reducible refine gate_callee (f := 33) rfl ?_); refine gl_ 18 Tryd.func33 #[.string (rdOf ByteArray.empty l0 x12_1), .string (⟨#[32]⟩ : ByteArray)] ?_; (with_reducible refine (strings_Split.calls (rdOf ByteArray.empty l0 x12_1) (⟨#[32]⟩ : ByteArray) t429 _ ?side1 A7.out).mono ?_); (case side1 => exact tab_below HTb.out (bl_)); rintro e w33 ⟨v430, rfl, ho0, hb⟩; refine ⟨_, rfl, ?_⟩; have HO431 := Aside0.mk (Kd.R_lower (Kd.R_new' ho0 (Kd.R_lt (kR_ HO_3))) (below_size (bl_))); replace HO_3 := Aside0.mk (Kd.R_elder' (kR_ HO_3) (Kd.R_base ho0) hb); replace HB := Aside0.mk (below_step (bl_) hb); (try clear hb); (try clear hb2); (try clear hk); (try clear hi); (try clear ho0); obtain ⟨Ao34, co34, eo34⟩ := Kd.R_slice HO431.out; subst eo34; have p432 : 0 ≤ (0 : Int) := (by omega); have q432 : 0 < (t429.length : Int) := od_; obtain ⟨ad432, e432, hx432_0⟩ := Kd.at_string (Kd.R_reads' HO431.out).2.2 0 p432 q432; cases e432; have qi432 : (0 < t429.length) = True := eq_true (by omega); (try rw [show ((0 : Int)).toNat = 0 from rfl] at hx432_0); (try rw [Addr.add_zero'] at hx432_0); replace p432 := eq_true p432; replace q432 := eq_true q432; have p10 : 0 ≤ (0 : Int) := (by omega); have q10 : (0 : Int) < ((t429.length : Int) : Int) := od_; have qi10 : (0 < t429.length) = True := eq_true (by omega); obtain ⟨go10, co10, eo10, gb10, gl10, cl10, HG10⟩ := Kd.R_form HO431.out (by omega); (first | cases eo10 | (injection eo10 with ea_ en_ ec_; (first | subst ea_ | (injection ea_ with ea_; subst ea_)); subst ec_; clear en_)); have GB10 := Aside0.mk gb10; have GG10 := Aside0.mk HG10; clear gb10 gl10 HG10; (first | simp only [add_plain] at hx432_0 | skip); obtain ⟨hx10_0, hf10_0⟩ := Kd.R_celln (⟨#[]⟩ : ByteArray) HO431.out (0 : Int) p10 q10; (try rw [show ((0 : Int)).toNat = 0 from rfl] at hx10_0); (try simp only [Nat.reduceMul, Nat.zero_mul, Nat.zero_add, Nat.reduceAdd] at hx10_0); (try rw [show ((0 : Int)).toNat = 0 from rfl] at hf10_0); (try simp only [Nat.reduceMul, Nat.zero_mul, Nat.zero_add, Nat.reduceAdd] at hf10_0); replace p10 := eq_true p10; replace q10 := eq_true q10; have n_ := Aside0.mk (Kd.R_mono (ok' := (fun k_ => some k_ ≠ (u3 : Value).ownBlock)) HO431.out (fun k_ hk => hk.2)); clear HO431; have HO431 := n_; clear n_; obtain ⟨hy35_, hz35_⟩ := Kd.R_celln (⟨#[]⟩ : ByteArray) HO431.out (0 : Int) (by omega) (od_); (try simp only [Int.reduceToNat, Int.toNat_zero, Int.toNat_ofNat, Nat.reduceMul, Nat.zero_mul, Nat.zero_add] at hy35_ hz35_); (try rw [show ((0 : Int)).toNat = 0 from rfl] at hy35_); (try rw [show ((0 : Int)).toNat = 0 from rfl] at hz35_); have HP35 := Kd.R_putg HO431.out (0 : Int) (x4_1 ++ (rdOf ByteArray.empty t429 0))) | ((with_reducible refine gate_store (t := 9) (p := 25) rfl ?_); refine store_event (t := 9) (p := 25) (v := ?vo_w36) (w1 := (w33.setCell ⟨go10, (0 : Int).toNat, none⟩ (.string (x4_1 ++ (rdOf ByteArray.empty t429 0))))) ?hg ?ho ?hn ?hr ?_; (case ho => rfl); (case hg => rfl); (case hn => rfl); (case hr => first | (go_simp; done) | (go_simp; rfl)); intro w36 hw; have hg : w33.grownBy w36 (some go10) := (by rw [hw]; exact HP35.2); have hp_ : Kd.R Kd.string 9 w36 w.heap.size (fun k_ => some k_ ≠ (u3 : Value).ownBlock) (.slice (some ⟨go10, 0, none⟩) t429.length co34) y433 := (by rw [hw, Ny433.out]; exact HP35.1); clear HP35; replace HO_3 := Aside0.mk (Kd.R_after (v := (.slice (some ⟨go10, 0, none⟩) t429.length co34)) (v1 := (.slice (some ⟨go10, 0, none⟩) t429.length co34)) (ok := (fun _ => True)) (kR_ HO_3) hg (.inl rfl)); replace HO431 := Aside0.mk (hp_); replace HB := Aside0.mk ((by rw [hw]; exact below_set (HB.out) GB10.out : Below w.heap.size w w36)); clear hg hw hp_) | ((with_reducible refine gate_builtin (b := .append) (xs := #[.tmp 46, .tmp 47]) rfl ?_); at_builtin; refine Kd.R_append_rows Kd.string (w0 := w) w.heap.size rfl (.tmp 46) (.tmp 47) 32 9 (.string ⟨#[]⟩) 16 rfl Tryd.underlying32 info9 rfl (by decide) (by omega) u3 x3_1 y433 _ _ _ (fun k_ => some k_ ≠ (.slice (some ⟨go10, 0, none⟩) t429.length co34 : Value).ownBlock) (fun _ => False) rfl rfl ?aO ?aR (fun _ _ h => h) (fun _ h => h.elim) ?aF ?aB ?aS ?aL ?_; (case aR => rw [show t429.length = y433.length from (Kd.R_reads' HO431.out).1]; repeat (first | exact (Kd.R_reads' HO431.out).2.2 | (with_reducible refine Kd.C_alloc ?_ _) | (with_reducible refine Kd.C_drewN ?_ _) | (with_reducible refine Kd.C_drew ?_))); (case aB => exact (bl_)); (case aF => exact (fun k_ hk => Kd.fresh' (Kd.R_lt (kR_ HO431)) k_ hk)); (case aO => exact (by (with_reducible repeat (first | apply Kd.R_alloc | apply Kd.R_drewN | apply Kd.R_drew)); exact Kd.R_mono HO_3.out (fun _ hk => hk.2))); (case aS => exact (below_size (bl_))); (case aL => have := LMc32.out; have hlx_ := (Kd.R_reads' HO431.out).1; omega); intro v447 w37 ho hb hg hat; rw [← Ny446.out] at ho; replace HO431 := Aside0.mk (Kd.R_after (ok := (fun _ => True)) (by (with_reducible repeat (first | apply Kd.R_alloc | apply Kd.R_drewN | apply Kd.R_drew)); exact Kd.R_mono HO431.out (fun _ hk => ⟨trivial, hk⟩)) hg hat); replace HB := Aside0.mk (hb); have HO448 := Aside0.mk (ho); clear HO_3; clear ho hb hg hat))
     go_roundg k1
     case measure => have := HK1.out; omega
     case rel => exact ⟨(y446), ((⟨#[]⟩ : ByteArray)), (wrap64 (x12_1 + 1)), rf_, rf_, H', ⟨by have := HK1.out; omega⟩, ⟨by (with_reducible repeat (first | apply Kd.R_alloc | apply Kd.R_drewN | apply Kd.R_drew)); exact Kd.R_mono HO448.out (fun _ hk => trivial)⟩, ⟨bl_⟩⟩
   replace H := Option.bind_eq_some_iff.mp H
   obtain ⟨t434, A120, H⟩ := H; try dsimp -simprocs only at H
   have A12 := Aside0.mk A120
   clear A120
   replace H := iub_ H; rcases H with ⟨rfl, H⟩ | ⟨rfl, H⟩
   · replace H := inc_ H; obtain ⟨c26, H⟩ := H
     have LMc26 := Aside0.mk c26
     clear c26
     obtain ⟨y443, hy_⟩ : ∃ y_ : List ByteArray, y_ = (x3_1 ++ y433) := ⟨_, rfl⟩
     replace H : (impl_Unwrap.l0 k1 l0 y443 (⟨#[]⟩ : ByteArray) l0 (l0.length : Int) (wrap64 (x12_1 + 1))) = some r := ry_
     have Ny443 := Aside0.mk hy_; clear hy_
     have H' := Aside0.mk H; clear H
     have p428 : 0 ≤ (x12_1 : Int) := od_
     have q428 : x12_1 < (l0.length : Int) := od_
     obtain ⟨ad428, e428, hx428_0⟩ := Kd.at_string HR0.out x12_1 p428 q428
     cases e428
     replace hx428_0 := hc_ HB hx428_0
     replace p428 := eq_true p428; replace q428 := eq_true q428
     go_wp2_with (first | ((with_reducible refine gate_callee (f := 33) rfl ?_); refine gl_ 18 Tryd.func33 #[.string (rdOf ByteArray.empty l0 x12_1), .string (⟨#[32]⟩ : ByteArray)] ?_; (with_reducible refine (strings_Split.calls (rdOf ByteArray.empty l0 x12_1) (⟨#[32]⟩ : ByteArray) t429 _ ?side1 A7.out).mono ?_); (case side1 => exact tab_below HTb.out (bl_)); rintro e w27 ⟨v430, rfl, ho0, hb⟩; refine ⟨_, rfl, ?_⟩; have HO431 := Aside0.mk (Kd.R_lower (Kd.R_new' ho0 (Kd.R_lt (kR_ HO_3))) (below_size (bl_))); replace HO_3 := Aside0.mk (Kd.R_elder' (kR_ HO_3) (Kd.R_base ho0) hb); replace HB := Aside0.mk (below_step (bl_) hb); (try clear hb); (try clear hb2); (try clear hk); (try clear hi); (try clear ho0); obtain ⟨Ao28, co28, eo28⟩ := Kd.R_slice HO431.out; subst eo28; have p432 : 0 ≤ (0 : Int) := (by omega); have q432 : 0 < (t429.length : Int) := od_; obtain ⟨ad432, e432, hx432_0⟩ := Kd.at_string (Kd.R_reads' HO431.out).2.2 0 p432 q432; cases e432; have qi432 : (0 < t429.length) = True := eq_true (by omega); (try rw [show ((0 : Int)).toNat = 0 from rfl] at hx432_0); (try rw [Addr.add_zero'] at hx432_0); replace p432 := eq_true p432; replace q432 := eq_true q432; have p10 : 0 ≤ (0 : Int) := (by omega); have q10 : (0 : Int) < ((t429.length : Int) : Int) := od_; have qi10 : (0 < t429.length) = True := eq_true (by omega); obtain ⟨go10, co10, eo10, gb10, gl10, cl10, HG10⟩ := Kd.R_form HO431.out (by omega); (first | cases eo10 | (injection eo10 with ea_ en_ ec_; (first | subst ea_ | (injection ea_ with ea_; subst ea_)); subst ec_; clear en_)); have GB10 := Aside0.mk gb10; have GG10 := Aside0.mk HG10; clear gb10 gl10 HG10; (first | simp only [add_plain] at hx432_0 | skip); obtain ⟨hx10_0, hf10_0⟩ := Kd.R_celln (⟨#[]⟩ : ByteArray) HO431.out (0 : Int) p10 q10; (try rw [show ((0 : Int)).toNat = 0 from rfl] at hx10_0); (try simp only [Nat.reduceMul, Nat.zero_mul, Nat.zero_add, Nat.reduceAdd] at hx10_0); (try rw [show ((0 : Int)).toNat = 0 from rfl] at hf10_0); (try simp only [Nat.reduceMul, Nat.zero_mul, Nat.zero_add, Nat.reduceAdd] at hf10_0); replace p10 := eq_true p10; replace q10 := eq_true q10; have n_ := Aside0.mk (Kd.R_mono (ok' := (fun k_ => some k_ ≠ (u3 : Value).ownBlock)) HO431.out (fun k_ hk => hk.2)); clear HO431; have HO431 := n_; clear n_; obtain ⟨hy29_, hz29_⟩ := Kd.R_celln (⟨#[]⟩ : ByteArray) HO431.out (0 : Int) (by omega) (od_); (try simp only [Int.reduceToNat, Int.toNat_zero, Int.toNat_ofNat, Nat.reduceMul, Nat.zero_mul, Nat.zero_add] at hy29_ hz29_); (try rw [show ((0 : Int)).toNat = 0 from rfl] at hy29_); (try rw [show ((0 : Int)).toNat = 0 from rfl] at hz29_); have HP29 := Kd.R_putg HO431.out (0 : Int) (x4_1 ++ (rdOf ByteArray.empty t429 0))) | ((with_reducible refine gate_store (t := 9) (p := 25) rfl ?_); refine store_event (t := 9) (p := 25) (v := ?vo_w30) (w1 := (w27.setCell ⟨go10, (0 : Int).toNat, none⟩ (.string (x4_1 ++ (rdOf ByteArray.empty t429 0))))) ?hg ?ho ?hn ?hr ?_; (case ho => rfl); (case hg => rfl); (case hn => rfl); (case hr => first | (go_simp; done) | (go_simp; rfl)); intro w30 hw; have hg : w27.grownBy w30 (some go10) := (by rw [hw]; exact HP29.2); have hp_ : Kd.R Kd.string 9 w30 w.heap.size (fun k_ => some k_ ≠ (u3 : Value).ownBlock) (.slice (some ⟨go10, 0, none⟩) t429.length co28) y433 := (by rw [hw, Ny433.out]; exact HP29.1); clear HP29; replace HO_3 := Aside0.mk (Kd.R_after (v := (.slice (some ⟨go10, 0, none⟩) t429.length co28)) (v1 := (.slice (some ⟨go10, 0, none⟩) t429.length co28)) (ok := (fun _ => True)) (kR_ HO_3) hg (.inl rfl)); replace HO431 := Aside0.mk (hp_); replace HB := Aside0.mk ((by rw [hw]; exact below_set (HB.out) GB10.out : Below w.heap.size w w30)); clear hg hw hp_) | (go_at_call 34; (with_reducible refine (strings_HasSuffix.calls (rdOf ByteArray.empty l0 x12_1) (⟨#[45]⟩ : ByteArray) false _ A12.out).mono ?_); rintro e w' ⟨rfl, ⟨nd, rfl⟩⟩) | ((with_reducible refine gate_builtin (b := .append) (xs := #[.tmp 46, .tmp 47]) rfl ?_); at_builtin; refine Kd.R_append_rows Kd.string (w0 := w) w.heap.size rfl (.tmp 46) (.tmp 47) 32 9 (.string ⟨#[]⟩) 16 rfl Tryd.underlying32 info9 rfl (by decide) (by omega) u3 x3_1 y433 _ _ _ (fun k_ => some k_ ≠ (.slice (some ⟨go10, 0, none⟩) t429.length co28 : Value).ownBlock) (fun _ => False) rfl rfl ?aO ?aR (fun _ _ h => h) (fun _ h => h.elim) ?aF ?aB ?aS ?aL ?_; (case aR => rw [show t429.length = y433.length from (Kd.R_reads' HO431.out).1]; repeat (first | exact (Kd.R_reads' HO431.out).2.2 | (with_reducible refine Kd.C_alloc ?_ _) | (with_reducible refine Kd.C_drewN ?_ _) | (with_reducible refine Kd.C_drew ?_))); (case aB => exact (bl_)); (case aF => exact (fun k_ hk => Kd.fresh' (Kd.R_lt (kR_ HO431)) k_ hk)); (case aO => exact (by (with_reducible repeat (first | apply Kd.R_alloc | apply Kd.R_drewN | apply Kd.R_drew)); exact Kd.R_mono HO_3.out (fun _ hk => hk.2))); (case aS => exact (below_size (bl_))); (case aL => have := LMc26.out; have hlx_ := (Kd.R_reads' HO431.out).1; omega); intro v444 w31 ho hb hg hat; rw [← Ny443.out] at ho; replace HO431 := Aside0.mk (Kd.R_after (ok := (fun _ => True)) (by (with_reducible repeat (first | apply Kd.R_alloc | apply Kd.R_drewN | apply Kd.R_drew)); exact Kd.R_mono HO431.out (fun _ hk => ⟨trivial, hk⟩)) hg hat); replace HB := Aside0.mk (hb); have HO445 := Aside0.mk (ho); clear HO_3; clear ho hb hg hat))
     go_roundg k1
     case measure => have := HK1.out; omega
     case rel => exact ⟨(y443), ((⟨#[]⟩ : ByteArray)), (wrap64 (x12_1 + 1)), rf_, rf_, H', ⟨by have := HK1.out; omega⟩, ⟨by (with_reducible repeat (first | apply Kd.R_alloc | apply Kd.R_drewN | apply Kd.R_drew)); exact Kd.R_mono HO445.out (fun _ hk => trivial)⟩, ⟨bl_⟩⟩
   obtain ⟨ji14, hji14⟩ : ∃ j_ : Int, (wrap64 ((t429.length : Int) - 1)) = j_ := ⟨_, rfl⟩
   replace H : (if 0 ≤ (ji14) then (if (ji14) < (t429.length : Int) then ((strings_TrimSuffix.f (rdOf ByteArray.empty y433 (ji14)) (⟨#[45]⟩ : ByteArray)).bind fun t436 => (if (ji14) ≤ (t429.length : Int) then ((some (y433.take ((ji14) : Int).toNat : List ByteArray)).bind fun y437 => (if x3_1.length + y437.length < 8796093022208 then (impl_Unwrap.l0 k1 l0 (x3_1 ++ y437) t436 l0 (l0.length : Int) (wrap64 (x12_1 + 1))) else (none))) else (none))) else (none)) else (none)) = some r := by first | (rw [hji14] at H; exact H) | (simp only [hji14] at H ⊢; exact H)
   (try rw [hji14] at A7)
   (try rw [hji14] at A12)
   have hji14w : (IntKind.i64.wrap ((t429.length : Int) - 1)) = ji14 := (i64_w _).trans hji14
   replace H := ind_ H; obtain ⟨c15b0, H⟩ := H
   replace H := ind_ H; obtain ⟨c16b0, H⟩ := H
   replace H := Option.bind_eq_some_iff.mp H
   obtain ⟨t436, A170, H⟩ := H; try dsimp -simprocs only at H
   have A17 := Aside0.mk A170
   clear A170
   replace H := inc_ H; obtain ⟨c18, H⟩ := H
   have c18b0 := eq_true c18
   have c18b1 : decide ((ji14) ≤ (t429.length : Int)) = true := decide_eq_true c18
   clear c18
   obtain ⟨y437, hy_⟩ : ∃ y_ : List ByteArray, y_ = (y433.take ((ji14) : Int).toNat) := ⟨_, rfl⟩
   replace H : (if x3_1.length + y437.length < 8796093022208 then (impl_Unwrap.l0 k1 l0 (x3_1 ++ y437) t436 l0 (l0.length : Int) (wrap64 (x12_1 + 1))) else (none)) = some r := ry_
   have Ny437 := Aside0.mk hy_; clear hy_
   replace H := inc_ H; obtain ⟨c19, H⟩ := H
   have LMc19 := Aside0.mk c19
   clear c19
   obtain ⟨y440, hy_⟩ : ∃ y_ : List ByteArray, y_ = (x3_1 ++ y437) := ⟨_, rfl⟩
   replace H : (impl_Unwrap.l0 k1 l0 y440 t436 l0 (l0.length : Int) (wrap64 (x12_1 + 1))) = some r := ry_
   have Ny440 := Aside0.mk hy_; clear hy_
   have H' := Aside0.mk H; clear H
   have p428 : 0 ≤ (x12_1 : Int) := od_
   have q428 : x12_1 < (l0.length : Int) := od_
   obtain ⟨ad428, e428, hx428_0⟩ := Kd.at_string HR0.out x12_1 p428 q428
   cases e428
   replace hx428_0 := hc_ HB hx428_0
   replace p428 := eq_true p428; replace q428 := eq_true q428
   go_wp2_with (first | ((with_reducible refine gate_callee (f := 33) rfl ?_); refine gl_ 18 Tryd.func33 #[.string (rdOf ByteArray.empty l0 x12_1), .string (⟨#[32]⟩ : ByteArray)] ?_; (with_reducible refine (strings_Split.calls (rdOf ByteArray.empty l0 x12_1) (⟨#[32]⟩ : ByteArray) t429 _ ?side1 A7.out).mono ?_); (case side1 => exact tab_below HTb.out (bl_)); rintro e w20 ⟨v430, rfl, ho0, hb⟩; refine ⟨_, rfl, ?_⟩; have HO431 := Aside0.mk (Kd.R_lower (Kd.R_new' ho0 (Kd.R_lt (kR_ HO_3))) (below_size (bl_))); replace HO_3 := Aside0.mk (Kd.R_elder' (kR_ HO_3) (Kd.R_base ho0) hb); replace HB := Aside0.mk (below_step (bl_) hb); (try clear hb); (try clear hb2); (try clear hk); (try clear hi); (try clear ho0); obtain ⟨Ao21, co21, eo21⟩ := Kd.R_slice HO431.out; subst eo21; have p432 : 0 ≤ (0 : Int) := (by omega); have q432 : 0 < (t429.length : Int) := od_; obtain ⟨ad432, e432, hx432_0⟩ := Kd.at_string (Kd.R_reads' HO431.out).2.2 0 p432 q432; cases e432; have qi432 : (0 < t429.length) = True := eq_true (by omega); (try rw [show ((0 : Int)).toNat = 0 from rfl] at hx432_0); (try rw [Addr.add_zero'] at hx432_0); replace p432 := eq_true p432; replace q432 := eq_true q432; have p10 : 0 ≤ (0 : Int) := (by omega); have q10 : (0 : Int) < ((t429.length : Int) : Int) := od_; have qi10 : (0 < t429.length) = True := eq_true (by omega); obtain ⟨go10, co10, eo10, gb10, gl10, cl10, HG10⟩ := Kd.R_form HO431.out (by omega); (first | cases eo10 | (injection eo10 with ea_ en_ ec_; (first | subst ea_ | (injection ea_ with ea_; subst ea_)); subst ec_; clear en_)); have GB10 := Aside0.mk gb10; have GG10 := Aside0.mk HG10; clear gb10 gl10 HG10; (first | simp only [add_plain] at hx432_0 | skip); obtain ⟨hx10_0, hf10_0⟩ := Kd.R_celln (⟨#[]⟩ : ByteArray) HO431.out (0 : Int) p10 q10; (try rw [show ((0 : Int)).toNat = 0 from rfl] at hx10_0); (try simp only [Nat.reduceMul, Nat.zero_mul, Nat.zero_add, Nat.reduceAdd] at hx10_0); (try rw [show ((0 : Int)).toNat = 0 from rfl] at hf10_0); (try simp only [Nat.reduceMul, Nat.zero_mul, Nat.zero_add, Nat.reduceAdd] at hf10_0); replace p10 := eq_true p10; replace q10 := eq_true q10; have n_ := Aside0.mk (Kd.R_mono (ok' := (fun k_ => some k_ ≠ (u3 : Value).ownBlock)) HO431.out (fun k_ hk => hk.2)); clear HO431; have HO431 := n_; clear n_; obtain ⟨hy22_, hz22_⟩ := Kd.R_celln (⟨#[]⟩ : ByteArray) HO431.out (0 : Int) (by omega) (od_); (try simp only [Int.reduceToNat, Int.toNat_zero, Int.toNat_ofNat, Nat.reduceMul, Nat.zero_mul, Nat.zero_add] at hy22_ hz22_); (try rw [show ((0 : Int)).toNat = 0 from rfl] at hy22_); (try rw [show ((0 : Int)).toNat = 0 from rfl] at hz22_); have HP22 := Kd.R_putg HO431.out (0 : Int) (x4_1 ++ (rdOf ByteArray.empty t429 0))) | ((with_reducible refine gate_store (t := 9) (p := 25) rfl ?_); refine store_event (t := 9) (p := 25) (v := ?vo_w23) (w1 := (w20.setCell ⟨go10, (0 : Int).toNat, none⟩ (.string (x4_1 ++ (rdOf ByteArray.empty t429 0))))) ?hg ?ho ?hn ?hr ?_; (case ho => rfl); (case hg => rfl); (case hn => rfl); (case hr => first | (go_simp; done) | (go_simp; rfl)); intro w23 hw; have hg : w20.grownBy w23 (some go10) := (by rw [hw]; exact HP22.2); have hp_ : Kd.R Kd.string 9 w23 w.heap.size (fun k_ => some k_ ≠ (u3 : Value).ownBlock) (.slice (some ⟨go10, 0, none⟩) t429.length co21) y433 := (by rw [hw, Ny433.out]; exact HP22.1); clear HP22; replace HO_3 := Aside0.mk (Kd.R_after (v := (.slice (some ⟨go10, 0, none⟩) t429.length co21)) (v1 := (.slice (some ⟨go10, 0, none⟩) t429.length co21)) (ok := (fun _ => True)) (kR_ HO_3) hg (.inl rfl)); replace HO431 := Aside0.mk (hp_); replace HB := Aside0.mk ((by rw [hw]; exact below_set (HB.out) GB10.out : Below w.heap.size w w23)); clear hg hw hp_) | (go_at_call 34; (with_reducible refine (strings_HasSuffix.calls (rdOf ByteArray.empty l0 x12_1) (⟨#[45]⟩ : ByteArray) true _ A12.out).mono ?_); rintro e w' ⟨rfl, ⟨nd, rfl⟩⟩; have p435 : 0 ≤ ((ji14) : Int) := od_; have q435 : (ji14) < (y433.length : Int) := (by have h_ : ((ji14) : Int) < ((t429.length : Int) : Int) := od_; first | (have e_ := (Kd.R_reads' HO431.out).1; omega) | simpa only [Ny433.out, List.length_set] using h_); have ql435 : (((ji14) : Int) < ((t429.length : Int) : Int)) = True := eq_true (od_); obtain ⟨ad435, e435, hx435_0⟩ := Kd.at_string (Kd.R_reads' HO431.out).2.2 (ji14) p435 q435; obtain rfl : (⟨go10, 0, none⟩ : Addr) = ad435 := (by injection e435); (first | simp only [add_plain] at hx435_0 | simp only [add_at] at hx435_0 | simp only [Addr.add, Nat.zero_add] at hx435_0 | skip); replace p435 := eq_true p435; replace q435 := eq_true q435) | ((with_reducible refine gate_callee (f := 35) rfl ?_); refine goesL_ (some 42) rfl rfl Tryd.func35 (by kernel_rfl) rfl #[.string (rdOf ByteArray.empty y433 (ji14)), .string (⟨#[45]⟩ : ByteArray)] rfl (by (try simp only [List.map_toArray, List.map_cons, List.map_nil]); first | done | (simp only [hji14]; rfl) | rfl | (simp only [List.length_drop, List.length_take]; rfl)) ?_; (with_reducible refine (strings_TrimSuffix.calls (rdOf ByteArray.empty y433 (ji14)) (⟨#[45]⟩ : ByteArray) t436 _ A17.out).mono ?_); rintro e w' ⟨rfl, ⟨nd, rfl⟩⟩; refine ⟨_, rfl, ?_⟩; have q24 : ((ji14) : Int) ≤ ((t429.length : Int) : Int) := od_; obtain ⟨i024, hi024, _, hsz24, _⟩ := info_parts info9; have hcut24 := cut_to (P := Tryd.prog) 32 9 .i64 Tryd.underlying32 hi024 (some ⟨go10, 0, none⟩) t429.length co21 (ji14) (od_) q24 (Kd.R_reads' HO431.out).2.1; have hr24 := Kd.R_take (m := ((ji14) : Int).toNat) HO431.out (by first | omega | (have h_ := (Kd.R_reads' HO431.out).1; omega)); have hy24 : y437.length = ((ji14) : Int).toNat := (by rw [Ny437.out, List.length_take]; first | omega | (have h_ := (Kd.R_reads' HO431.out).1; omega)); rw [← Ny437.out] at hr24; rw [← hy24] at hr24 hcut24; clear hy24 hi024 hsz24 HO431; have HO439 := Aside0.mk hr24; clear hr24; replace q24 := eq_true q24) | ((with_reducible refine gate_builtin (b := .append) (xs := #[.tmp 46, .tmp 47]) rfl ?_); at_builtin; refine Kd.R_append_rows Kd.string (w0 := w) w.heap.size rfl (.tmp 46) (.tmp 47) 32 9 (.string ⟨#[]⟩) 16 rfl Tryd.underlying32 info9 rfl (by decide) (by omega) u3 x3_1 y437 _ _ _ (fun k_ => some k_ ≠ (.slice (some ⟨go10, 0, none⟩) y437.length co21 : Value).ownBlock) (fun _ => False) rfl rfl ?aO ?aR (fun _ _ h => h) (fun _ h => h.elim) ?aF ?aB ?aS ?aL ?_; (case aR => exact cr_ HO439); (case aB => exact (bl_)); (case aF => exact (fun k_ hk => Kd.fresh' (Kd.R_lt (kR_ HO439)) k_ hk)); (case aO => exact (by (with_reducible repeat (first | apply Kd.R_alloc | apply Kd.R_drewN | apply Kd.R_drew)); exact Kd.R_mono HO_3.out (fun _ hk => hk.2))); (case aS => exact (below_size (bl_))); (case aL => have := LMc19.out; omega); intro v441 w25 ho hb hg hat; rw [← Ny440.out] at ho; replace HO439 := Aside0.mk (Kd.R_after (ok := (fun _ => True)) (by (with_reducible repeat (first | apply Kd.R_alloc | apply Kd.R_drewN | apply Kd.R_drew)); exact Kd.R_mono HO439.out (fun _ hk => ⟨trivial, hk⟩)) hg hat); replace HB := Aside0.mk (hb); have HO442 := Aside0.mk (ho); clear HO_3; clear ho hb hg hat))
   go_roundg k1
   case measure => have := HK1.out; omega
   case rel => exact ⟨(y440), (t436), (wrap64 (x12_1 + 1)), rf_, rf_, H', ⟨by have := HK1.out; omega⟩, ⟨by (with_reducible repeat (first | apply Kd.R_alloc | apply Kd.R_drewN | apply Kd.R_drew)); exact Kd.R_mono HO442.out (fun _ hk => trivial)⟩, ⟨bl_⟩⟩

end Go.Proofs.YtlmbmfnimpjgmaaDoor.P
