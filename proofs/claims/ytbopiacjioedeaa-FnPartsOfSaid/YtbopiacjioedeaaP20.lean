-- Written by a program of this session (wip/gen/gen.py) out of Lean's print of the loaded program; Lean checks it.
import Derived.Test.YtbopiacjioedeaaP0
import Derived.Test.YtbopiacjioedeaaSq2
import Derived.Test.YtbopiacjioedeaaP7
import Derived.Test.YtbopiacjioedeaaP9
import Derived.Test.YtbopiacjioedeaaP12
import Derived.Test.YtbopiacjioedeaaP16
import Derived.Test.YtbopiacjioedeaaP19
import Derived.Test.YtbopiacjioedeaaTab
namespace Go.Proofs.Ytbopiacjioedeaa.P
open Go.RowKit Go.Proofs.YtbopiacjioedeaaW.PrintWords Go.Proofs.YtbopiacjioedeaaW.PrintLast Go.Proofs.YtbopiacjioedeaaW.PrintMore
attribute [local go_sem] max2_int min2_int max_two min_two max_three min_three max_four min_four IntKind.wrap_u8 IntKind.wrap_u32 w64_256 w64_u32
set_option maxHeartbeats 8000000
set_option maxRecDepth 100000
set_option linter.unusedVariables false
set_option linter.unusedSimpArgs false

/-! ### laws_mdTexts: function 7 -/
def laws_mdTexts.l0 : Nat → List ByteArray → List ByteArray → Int → Option (Bool)
 | 0, _, _, _ => none
 | k + 1, x0, x1, x5 => if x5 < (x0.length : Int) then (if 0 ≤ x5 then (if x5 < (x1.length : Int) then (if (rdOf ByteArray.empty x0 x5).toList = (rdOf ByteArray.empty x1 x5).toList then (laws_mdTexts.l0 k x0 x1 (wrap64 (x5 + 1))) else (some false)) else (none)) else (none)) else (some true)
def laws_mdTexts.f (k : Nat) (l0 : List ByteArray) (l1 : List ByteArray) : Option (Bool) := if (l0.length : Int) = (l1.length : Int) then (laws_mdTexts.l0 k l0 l1 0) else (some false)
theorem laws_mdTexts.mono_l : ∀ k, (∀ y0 y1 y2, LeO (laws_mdTexts.l0 k y0 y1 y2) (laws_mdTexts.l0 (k + 1) y0 y1 y2))
 | 0 => fun _ _ _ r h => by simp [laws_mdTexts.l0] at h
 | k + 1 => by
  have ih0 := laws_mdTexts.mono_l k
  · intro y0 y1 y2
    unfold laws_mdTexts.l0
    exact mn_
theorem laws_mdTexts.mono : ∀ a0 a1 k, LeO (laws_mdTexts.f k a0 a1) (laws_mdTexts.f (k + 1) a0 a1) := by
 intro a0 a1 k
 have ih0 := laws_mdTexts.mono_l k
 unfold laws_mdTexts.f
 exact mn_
theorem laws_mdTexts.calls (k : Nat) (A0 : Option Addr) (c0 : Nat) (l0 : List ByteArray) (A1 : Option Addr) (c1 : Nat) (l1 : List ByteArray) (r : Bool) (w : World) (hr0 : Kd.C Kd.string w A0 l0.length l0) (hc0 : l0.length ≤ c0) (hr1 : Kd.C Kd.string w A1 l1.length l1) (hc1 : l1.length ≤ c1) (h : laws_mdTexts.f k l0 l1 = some r) :
 Calls Try.prog 7 #[.slice A0 l0.length c0, .slice A1 l1.length c1] w fun e w' => e = .returned (.bool r) ∧ Drawn0 w w' := by
 have HR0 := Aside0.mk hr0
 have HC0 := Aside0.mk hc0
 clear hr0 hc0
 have HR1 := Aside0.mk hr1
 have HC1 := Aside0.mk hc1
 clear hr1 hc1
 unfold laws_mdTexts.f at h; have H := h; clear h
 replace H := iucc_ H; rcases H with ⟨c3, H⟩ | ⟨c3, H⟩
 · have c3b0 : ((l0.length : Int) == (l1.length : Int)) = false := beq_eq_false_iff_ne.mpr c3
   have c3b1 : ((l0.length : Int) != (l1.length : Int)) = true := bne_iff_ne.mpr c3
   have c3b2 : (l0.length == l1.length) = false := by first | simpa using c3 | (simp at c3 ⊢; omega)
   obtain rfl := Option.some.inj H
   go_enter Try.func7, Try.ntmps7
   go_wp2
   repeat (go_quiet (fail); try go_wp2)
   go_ret
   exact ⟨rf_, dr_⟩
 have c3b0 : ((l0.length : Int) == (l1.length : Int)) = true := beq_iff_eq.mpr c3
 have c3b1 : ((l0.length : Int) != (l1.length : Int)) = false := bne_eq_false_iff_eq.mpr c3
 have c3b2 : (l0.length == l1.length) = true := by first | simpa using c3 | (simp at c3 ⊢; omega)
 clear c3
 have H' := Aside0.mk H; clear H
 go_enter Try.func7, Try.ntmps7
 go_wp2
 repeat (go_quiet (fail); try go_wp2)
 go_loopg [5] k (fun kq v5 w' => ∃ (x5_1 : Int), v5 = .int .i64 x5_1 ∧ Aside0 (laws_mdTexts.l0 kq l0 l1 x5_1 = some r) ∧ Aside0 (kq ≤ k) ∧ Drawn0 w w')
 case atStart => exact ⟨(0), rf_, H', ⟨Nat.le_refl _⟩, dr_⟩
 case round =>
  clear H'
  (try clear c1);(try clear p2);(try clear c3);(try clear c3b0);(try clear c3b1);(try clear c3b2)
  obtain ⟨x5_1, rfl, HA, HK1, ⟨m1, rfl⟩⟩ := hrel
  cases gk with
  | zero => exact absurd HA.out (by simp [laws_mdTexts.l0])
  | succ k1 =>
   have H := HA.out
   clear HA
   simp only [laws_mdTexts.l0] at H
   replace H := iudd_ H; rcases H with ⟨c4b0, H⟩ | ⟨c4b0, H⟩
   · obtain rfl := Option.some.inj H
     go_wp2
     repeat (go_quiet (fail); try go_wp2)
     go_ret
     exact ⟨rf_, dr_⟩
   replace H := ind_ H; obtain ⟨c5b0, H⟩ := H
   replace H := ind_ H; obtain ⟨c6b0, H⟩ := H
   replace H := iucc_ H; rcases H with ⟨c7, H⟩ | ⟨c7, H⟩
   · have c7b0 : ((rdOf ByteArray.empty l0 x5_1).toList == (rdOf ByteArray.empty l1 x5_1).toList) = false := beq_eq_false_iff_ne.mpr c7
     have c7b1 : ((rdOf ByteArray.empty l0 x5_1).toList != (rdOf ByteArray.empty l1 x5_1).toList) = true := bne_iff_ne.mpr c7
     obtain rfl := Option.some.inj H
     have p507 : 0 ≤ (x5_1 : Int) := od_
     have q507 : x5_1 < (l0.length : Int) := od_
     obtain ⟨ad507, e507, hx507_0⟩ := Kd.at_string HR0.out x5_1 p507 q507
     cases e507
     replace p507 := eq_true p507; replace q507 := eq_true q507
     have p508 : 0 ≤ (x5_1 : Int) := od_
     have q508 : x5_1 < (l1.length : Int) := od_
     obtain ⟨ad508, e508, hx508_0⟩ := Kd.at_string HR1.out x5_1 p508 q508
     cases e508
     replace p508 := eq_true p508; replace q508 := eq_true q508
     go_wp2
     repeat (go_quiet (fail); try go_wp2)
     go_ret
     exact ⟨rf_, dr_⟩
   have c7b0 : ((rdOf ByteArray.empty l0 x5_1).toList == (rdOf ByteArray.empty l1 x5_1).toList) = true := beq_iff_eq.mpr c7
   have c7b1 : ((rdOf ByteArray.empty l0 x5_1).toList != (rdOf ByteArray.empty l1 x5_1).toList) = false := bne_eq_false_iff_eq.mpr c7
   clear c7
   have H' := Aside0.mk H; clear H
   have p507 : 0 ≤ (x5_1 : Int) := od_
   have q507 : x5_1 < (l0.length : Int) := od_
   obtain ⟨ad507, e507, hx507_0⟩ := Kd.at_string HR0.out x5_1 p507 q507
   cases e507
   replace p507 := eq_true p507; replace q507 := eq_true q507
   have p508 : 0 ≤ (x5_1 : Int) := od_
   have q508 : x5_1 < (l1.length : Int) := od_
   obtain ⟨ad508, e508, hx508_0⟩ := Kd.at_string HR1.out x5_1 p508 q508
   cases e508
   replace p508 := eq_true p508; replace q508 := eq_true q508
   go_wp2
   repeat (go_quiet (fail); try go_wp2)
   go_roundg k1
   case measure => have := HK1.out; omega
   case rel => exact ⟨(wrap64 (x5_1 + 1)), rf_, H', ⟨by have := HK1.out; omega⟩, dr_⟩

/-! ### spec_l2In: function 75 -/
def spec_l2In.l0 : Nat → List ByteArray → ByteArray → Int → Option (Bool)
 | 0, _, _, _ => none
 | k + 1, x0, x1, x5 => if x5 < (x0.length : Int) then (if 0 ≤ x5 then (if (rdOf ByteArray.empty x0 x5).toList = x1.toList then (some true) else (spec_l2In.l0 k x0 x1 (wrap64 (x5 + 1)))) else (none)) else (some false)
def spec_l2In.f (k : Nat) (l0 : List ByteArray) (a1 : ByteArray) : Option (Bool) := spec_l2In.l0 k l0 a1 0
theorem spec_l2In.mono_l : ∀ k, (∀ y0 y1 y2, LeO (spec_l2In.l0 k y0 y1 y2) (spec_l2In.l0 (k + 1) y0 y1 y2))
 | 0 => fun _ _ _ r h => by simp [spec_l2In.l0] at h
 | k + 1 => by
  have ih0 := spec_l2In.mono_l k
  · intro y0 y1 y2
    unfold spec_l2In.l0
    exact mn_
theorem spec_l2In.mono : ∀ a0 a1 k, LeO (spec_l2In.f k a0 a1) (spec_l2In.f (k + 1) a0 a1) := by
 intro a0 a1 k
 have ih0 := spec_l2In.mono_l k
 unfold spec_l2In.f
 exact mn_
theorem spec_l2In.calls (k : Nat) (A0 : Option Addr) (c0 : Nat) (l0 : List ByteArray) (a1 : ByteArray) (r : Bool) (w : World) (hr0 : Kd.C Kd.string w A0 l0.length l0) (hc0 : l0.length ≤ c0) (h : spec_l2In.f k l0 a1 = some r) :
 Calls Try.prog 75 #[.slice A0 l0.length c0, .string a1] w fun e w' => e = .returned (.bool r) ∧ Drawn0 w w' := by
 have HR0 := Aside0.mk hr0
 have HC0 := Aside0.mk hc0
 clear hr0 hc0
 unfold spec_l2In.f at h; have H := h; clear h
 have H' := Aside0.mk H; clear H
 go_enter Try.func75, Try.ntmps75
 go_wp2
 go_loopg [5] k (fun kq v5 w' => ∃ (x5_1 : Int), v5 = .int .i64 x5_1 ∧ Aside0 (spec_l2In.l0 kq l0 a1 x5_1 = some r) ∧ Aside0 (kq ≤ k) ∧ Drawn0 w w')
 case atStart => exact ⟨(0), rf_, H', ⟨Nat.le_refl _⟩, dr_⟩
 case round =>
  clear H'
  try clear p2
  obtain ⟨x5_1, rfl, HA, HK1, ⟨m1, rfl⟩⟩ := hrel
  cases gk with
  | zero => exact absurd HA.out (by simp [spec_l2In.l0])
  | succ k1 =>
   have H := HA.out
   clear HA
   simp only [spec_l2In.l0] at H
   replace H := iudd_ H; rcases H with ⟨c3b0, H⟩ | ⟨c3b0, H⟩
   · obtain rfl := Option.some.inj H
     go_wp2
     go_ret
     exact ⟨rf_, dr_⟩
   replace H := ind_ H; obtain ⟨c4b0, H⟩ := H
   replace H := itcc_ H; rcases H with ⟨c5, H⟩ | ⟨c5, H⟩
   · have c5b0 : ((rdOf ByteArray.empty l0 x5_1).toList == a1.toList) = true := beq_iff_eq.mpr c5
     have c5b1 : ((rdOf ByteArray.empty l0 x5_1).toList != a1.toList) = false := bne_eq_false_iff_eq.mpr c5
     clear c5
     obtain rfl := Option.some.inj H
     have p509 : 0 ≤ (x5_1 : Int) := od_
     have q509 : x5_1 < (l0.length : Int) := od_
     obtain ⟨ad509, e509, hx509_0⟩ := Kd.at_string HR0.out x5_1 p509 q509
     cases e509
     replace p509 := eq_true p509; replace q509 := eq_true q509
     go_wp2
     go_ret
     exact ⟨rf_, dr_⟩
   have c5b0 : ((rdOf ByteArray.empty l0 x5_1).toList == a1.toList) = false := beq_eq_false_iff_ne.mpr c5
   have c5b1 : ((rdOf ByteArray.empty l0 x5_1).toList != a1.toList) = true := bne_iff_ne.mpr c5
   have H' := Aside0.mk H; clear H
   have p509 : 0 ≤ (x5_1 : Int) := od_
   have q509 : x5_1 < (l0.length : Int) := od_
   obtain ⟨ad509, e509, hx509_0⟩ := Kd.at_string HR0.out x5_1 p509 q509
   cases e509
   replace p509 := eq_true p509; replace q509 := eq_true q509
   go_wp2
   go_roundg k1
   case measure => have := HK1.out; omega
   case rel => exact ⟨(wrap64 (x5_1 + 1)), rf_, H', ⟨by have := HK1.out; omega⟩, dr_⟩

/-! ### spec_l10Parts: function 52 -/
mutual
def spec_l10Parts.l0 : Nat → List ByteArray → ByteArray → Int → Int → Option (List ByteArray)
 | 0, _, _, _, _ => none
 | k + 1, x0, x1, x2, x7 => if (wrap64 (x7 + 3)) ≤ (x1.size : Int) then (if 0 ≤ x7 then (if x7 ≤ (x1.size : Int) then ((spec_l2In.f k x0 (x1.extract 0 (x7 : Int).toNat)).bind fun t520 => (if t520 = true then ((spec_l10Parts.f k x0 (x1.extract (x7 : Int).toNat x1.size) (wrap64 (x2 - 1))).bind fun t521 => (if (t521.length : Int) > 0 then ((some (([x1.extract 0 (x7 : Int).toNat] : List ByteArray) : List ByteArray)).bind fun y524 => (if y524.length + t521.length < 8796093022208 then (some (y524 ++ t521)) else (none))) else (spec_l10Parts.l0 k x0 x1 x2 (wrap64 (x7 + 1))))) else (spec_l10Parts.l0 k x0 x1 x2 (wrap64 (x7 + 1))))) else (none)) else (none)) else (some (([] : List ByteArray)))
def spec_l10Parts.f : Nat → List ByteArray → ByteArray → Int → Option (List ByteArray)
 | 0, _, _, _ => none
 | k + 1, l0, a1, a2 => if a2 = 1 then ((spec_l2In.f k l0 a1).bind fun t510 => (if t510 = true then (some (([a1] : List ByteArray))) else (some (([] : List ByteArray))))) else (spec_l10Parts.l0 k l0 a1 a2 3)
end
theorem spec_l10Parts.mono_l : ∀ k, (∀ y0 y1 y2, LeO (spec_l10Parts.f k y0 y1 y2) (spec_l10Parts.f (k + 1) y0 y1 y2)) ∧ (∀ y0 y1 y2 y3, LeO (spec_l10Parts.l0 k y0 y1 y2 y3) (spec_l10Parts.l0 (k + 1) y0 y1 y2 y3))
 | 0 => ⟨fun _ _ _ r h => by simp [spec_l10Parts.f] at h, fun _ _ _ _ r h => by simp [spec_l10Parts.l0] at h⟩
 | k + 1 => by
  obtain ⟨ih0, ih1⟩ := spec_l10Parts.mono_l k
  refine ⟨?_, ?_⟩
  · intro y0 y1 y2
    unfold spec_l10Parts.f
    have m0 := @spec_l2In.mono
    exact mn_
  · intro y0 y1 y2 y3
    unfold spec_l10Parts.l0
    have m0 := @spec_l2In.mono
    exact mn_
theorem spec_l10Parts.mono : ∀ a0 a1 a2 k, LeO (spec_l10Parts.f k a0 a1 a2) (spec_l10Parts.f (k + 1) a0 a1 a2) := by
 intro a0 a1 a2 k
 obtain ⟨ih0, ih1⟩ := spec_l10Parts.mono_l k
 exact ih0 a0 a1 a2
theorem spec_l10Parts.calls (k : Nat) : ∀ (A0 : Option Addr) (c0 : Nat) (l0 : List ByteArray) (a1 : ByteArray) (a2 : Int) (r : List ByteArray) (w : World) (hr0 : Kd.C Kd.string w A0 l0.length l0) (hc0 : l0.length ≤ c0) (h : spec_l10Parts.f k l0 a1 a2 = some r),
 Calls Try.prog 52 #[.slice A0 l0.length c0, .string a1, .int .i64 a2] w fun e w' => ∃ v0_ : Value, e = .returned (v0_) ∧ Kd.R Kd.string 9 w' w.heap.size (fun _ => True) v0_ r ∧ Below w.heap.size w w' := by
 induction k using Nat.strongRecOn with
 | _ k ih =>
 intro A0 c0 l0 a1 a2 r w hr0 hc0 h
 cases k with
 | zero => exact absurd h (by simp [spec_l10Parts.f])
 | succ k =>
 simp only [spec_l10Parts.f] at h
 have HR0 := Aside0.mk hr0
 have HC0 := Aside0.mk hc0
 clear hr0 hc0
 have HB := Aside0.mk (Below.refl w.heap.size w)
 have H : (if a2 = 1 then ((spec_l2In.f k l0 a1).bind fun t510 => (if t510 = true then (some (([a1] : List ByteArray))) else (some (([] : List ByteArray))))) else (spec_l10Parts.l0 k l0 a1 a2 3)) = some r := h
 clear h
 replace H := itcc_ H; rcases H with ⟨c4, H⟩ | ⟨c4, H⟩
 · have c4b0 : (a2 == 1) = true := beq_iff_eq.mpr c4
   have c4b1 : (a2 != 1) = false := bne_eq_false_iff_eq.mpr c4
   clear c4
   replace H := Option.bind_eq_some_iff.mp H
   obtain ⟨t510, A50, H⟩ := H; try dsimp only at H
   have A5 := Aside0.mk A50
   clear A50
   replace H := iub_ H; rcases H with ⟨rfl, H⟩ | ⟨rfl, H⟩
   · obtain ⟨y514, hy_⟩ : ∃ y_ : List ByteArray, y_ = (([] : List ByteArray)) := ⟨_, rfl⟩
     replace H : (some y514) = some r := ry_
     have Ny514 := Aside0.mk hy_; clear hy_
     obtain rfl := Option.some.inj H
     go_enter Try.func52, Try.ntmps52
     go_wp2_with (first | ((with_reducible refine gate_callee (f := 75) rfl ?_); refine gl_ 13 Try.func75 #[.slice A0 l0.length c0, .string a1] ?_; (with_reducible refine (spec_l2In.calls k _ _ l0 a1 false _ ?side1 ?side2 A5.out).mono ?_); (case side1 => repeat (first | exact HR0.out | (with_reducible refine Kd.C_alloc ?_ _) | (with_reducible refine Kd.C_drewN ?_ _) | (with_reducible refine Kd.C_drew ?_))); (case side2 => exact HC0.out); rintro e w' ⟨rfl, ⟨nd, rfl⟩⟩; refine ⟨_, rfl, ?_⟩) | ((with_reducible refine gate_dst (N := 16) rfl ?_); refine rl_ Kd.string 9 16 ([] : List ByteArray) [] ?_; intro v515 w9 ho10 hb hg_ hnew_; clear hg_ hnew_; (first | rw [← Ny514.out] at ho10 | (simp only [Int.reduceToNat] at ho10; rw [← Ny514.out] at ho10)); have HO516 := Aside0.mk (Kd.R_lower ho10 (below_size (bl_))); replace HB := Aside0.mk (below_step (bl_) hb); clear hb ho10))
     go_ret
     exact ⟨_, rfe_, kR_ HO516, bl_⟩
   obtain ⟨y511, hy_⟩ : ∃ y_ : List ByteArray, y_ = (([a1] : List ByteArray)) := ⟨_, rfl⟩
   replace H : (some y511) = some r := ry_
   have Ny511 := Aside0.mk hy_; clear hy_
   obtain rfl := Option.some.inj H
   go_enter Try.func52, Try.ntmps52
   go_wp2_with (first | ((with_reducible refine gate_callee (f := 75) rfl ?_); refine gl_ 13 Try.func75 #[.slice A0 l0.length c0, .string a1] ?_; (with_reducible refine (spec_l2In.calls k _ _ l0 a1 true _ ?side1 ?side2 A5.out).mono ?_); (case side1 => repeat (first | exact HR0.out | (with_reducible refine Kd.C_alloc ?_ _) | (with_reducible refine Kd.C_drewN ?_ _) | (with_reducible refine Kd.C_drew ?_))); (case side2 => exact HC0.out); rintro e w' ⟨rfl, ⟨nd, rfl⟩⟩; refine ⟨_, rfl, ?_⟩) | ((with_reducible refine gate_dst (N := 15) rfl ?_); refine rl_ Kd.string 9 15 ([a1] : List ByteArray) [.string a1] ?_; intro v512 w7 ho8 hb hg_ hnew_; clear hg_ hnew_; (first | rw [← Ny511.out] at ho8 | (simp only [Int.reduceToNat] at ho8; rw [← Ny511.out] at ho8)); have HO513 := Aside0.mk (Kd.R_lower ho8 (below_size (bl_))); replace HB := Aside0.mk (below_step (bl_) hb); clear hb ho8))
   go_ret
   exact ⟨_, rfe_, kR_ HO513, bl_⟩
 have c4b0 : (a2 == 1) = false := beq_eq_false_iff_ne.mpr c4
 have c4b1 : (a2 != 1) = true := bne_iff_ne.mpr c4
 have H' := Aside0.mk H; clear H
 go_enter Try.func52, Try.ntmps52
 go_wp2
 go_loopg [7] k (fun kq v7 w' => ∃ (x7_1 : Int), v7 = .int .i64 x7_1 ∧ Aside0 (spec_l10Parts.l0 kq l0 a1 a2 x7_1 = some r) ∧ Aside0 (kq ≤ k) ∧ Aside0 (Below w.heap.size w w'))
 case atStart => exact ⟨(3), rf_, H', ⟨Nat.le_refl _⟩, ⟨bl_⟩⟩
 case round =>
  clear H'
  (try clear p2);(try clear c4);(try clear c4b0);(try clear c4b1);(try clear c5);(try clear c6);(try clear c7)
  obtain ⟨x7_1, rfl, HA, HK1, HB⟩ := hrel
  cases gk with
  | zero => exact absurd HA.out (by simp [spec_l10Parts.l0])
  | succ k1 =>
   have H := HA.out
   clear HA
   simp only [spec_l10Parts.l0] at H
   replace H := iudd_ H; rcases H with ⟨c11b0, H⟩ | ⟨c11b0, H⟩
   · obtain ⟨y517, hy_⟩ : ∃ y_ : List ByteArray, y_ = (([] : List ByteArray)) := ⟨_, rfl⟩
     replace H : (some y517) = some r := ry_
     have Ny517 := Aside0.mk hy_; clear hy_
     obtain rfl := Option.some.inj H
     go_wp2_with (first | ((with_reducible refine gate_dst (N := 46) rfl ?_); refine rl_ Kd.string 9 46 ([] : List ByteArray) [] ?_; intro v518 w30 ho31 hb hg_ hnew_; clear hg_ hnew_; (first | rw [← Ny517.out] at ho31 | (simp only [Int.reduceToNat] at ho31; rw [← Ny517.out] at ho31)); have HO519 := Aside0.mk (Kd.R_lower ho31 (below_size (bl_))); replace HB := Aside0.mk (below_step (bl_) hb); clear hb ho31))
     go_ret
     exact ⟨_, rfe_, kR_ HO519, bl_⟩
   replace H := inc_ H; obtain ⟨c12, H⟩ := H
   have c12b0 := eq_true c12
   have c12b1 : decide (0 ≤ x7_1) = true := decide_eq_true c12
   clear c12
   replace H := inc_ H; obtain ⟨c13, H⟩ := H
   have c13b0 := eq_true c13
   have c13b1 : decide (x7_1 ≤ (a1.size : Int)) = true := decide_eq_true c13
   clear c13
   replace H := Option.bind_eq_some_iff.mp H
   obtain ⟨t520, A140, H⟩ := H; try dsimp only at H
   have A14 := Aside0.mk A140
   clear A140
   replace H := iub_ H; rcases H with ⟨rfl, H⟩ | ⟨rfl, H⟩
   · have H' := Aside0.mk H
     clear H
     go_wp2_with (first | ((with_reducible refine gate_callee (f := 75) rfl ?_); refine gl_ 28 Try.func75 #[.slice A0 l0.length c0, .string (a1.extract 0 (x7_1 : Int).toNat)] ?_; (with_reducible refine (spec_l2In.calls k1 _ _ l0 (a1.extract 0 (x7_1 : Int).toNat) false _ ?side1 ?side2 A14.out).mono ?_); (case side1 => exact cb_ HR0); (case side2 => exact HC0.out); rintro e w' ⟨rfl, ⟨nd, rfl⟩⟩; refine ⟨_, rfl, ?_⟩))
     go_roundg k1
     case measure => have := HK1.out; omega
     case rel => exact ⟨(wrap64 (x7_1 + 1)), rf_, H', ⟨by have := HK1.out; omega⟩, ⟨bl_⟩⟩
   have c16b0 := eq_true (od_ : 0 ≤ x7_1)
   have c17b0 := eq_true (od_ : x7_1 ≤ (a1.size : Int))
   replace H := Option.bind_eq_some_iff.mp H
   obtain ⟨t521, A180, H⟩ := H; try dsimp only at H
   have A18 := Aside0.mk A180
   clear A180
   replace H := iucc_ H; rcases H with ⟨c19, H⟩ | ⟨c19, H⟩
   · have c19b0 : decide (0 < (t521.length : Int)) = false := decide_eq_false c19
     have c19b1 : decide (0 < t521.length) = false := decide_eq_false (by omega)
     clear c19
     have H' := Aside0.mk H; clear H
     go_wp2_with (first | ((with_reducible refine gate_callee (f := 75) rfl ?_); refine gl_ 28 Try.func75 #[.slice A0 l0.length c0, .string (a1.extract 0 (x7_1 : Int).toNat)] ?_; (with_reducible refine (spec_l2In.calls k1 _ _ l0 (a1.extract 0 (x7_1 : Int).toNat) true _ ?side1 ?side2 A14.out).mono ?_); (case side1 => exact cb_ HR0); (case side2 => exact HC0.out); rintro e w' ⟨rfl, ⟨nd, rfl⟩⟩; refine ⟨_, rfl, ?_⟩) | ((with_reducible refine gate_callee (f := 52) rfl ?_); refine gl_ 36 Try.func52 #[.slice A0 l0.length c0, .string (a1.extract (x7_1 : Int).toNat a1.size), .int .i64 (wrap64 (a2 - 1))] ?_; (with_reducible refine (ih k1 (by have := HK1.out; omega) _ _ l0 (a1.extract (x7_1 : Int).toNat a1.size) (wrap64 (a2 - 1)) t521 _ ?side1 ?side2 A18.out).mono ?_); (case side1 => exact cb_ HR0); (case side2 => exact HC0.out); rintro e w28 ⟨v522, rfl, ho0, hb⟩; refine ⟨_, rfl, ?_⟩; have HO523 := Aside0.mk (Kd.R_lower ho0 (below_size (bl_))); replace HB := Aside0.mk (below_step (bl_) hb); (try clear hb); (try clear hb2); (try clear hk); (try clear hi); (try clear ho0); obtain ⟨Ao29, co29, eo29⟩ := Kd.R_slice HO523.out; subst eo29))
     go_roundg k1
     case measure => have := HK1.out; omega
     case rel => exact ⟨(wrap64 (x7_1 + 1)), rf_, H', ⟨by have := HK1.out; omega⟩, ⟨bl_⟩⟩
   have c19b0 : decide (0 < (t521.length : Int)) = true := decide_eq_true c19
   have c19b1 : decide (0 < t521.length) = true := decide_eq_true (by omega)
   clear c19
   have c20b0 := eq_true (od_ : 0 ≤ x7_1)
   have c21b0 := eq_true (od_ : x7_1 ≤ (a1.size : Int))
   obtain ⟨y524, hy_⟩ : ∃ y_ : List ByteArray, y_ = (([a1.extract 0 (x7_1 : Int).toNat] : List ByteArray)) := ⟨_, rfl⟩
   replace H : (if y524.length + t521.length < 8796093022208 then (some (y524 ++ t521)) else (none)) = some r := ry_
   have Ny524 := Aside0.mk hy_; clear hy_
   replace H := inc_ H; obtain ⟨c22, H⟩ := H
   have LMc22 := Aside0.mk c22
   clear c22
   obtain ⟨y527, hy_⟩ : ∃ y_ : List ByteArray, y_ = (y524 ++ t521) := ⟨_, rfl⟩
   replace H : (some y527) = some r := ry_
   have Ny527 := Aside0.mk hy_; clear hy_
   obtain rfl := Option.some.inj H
   go_wp2_with (first | ((with_reducible refine gate_callee (f := 75) rfl ?_); refine gl_ 28 Try.func75 #[.slice A0 l0.length c0, .string (a1.extract 0 (x7_1 : Int).toNat)] ?_; (with_reducible refine (spec_l2In.calls k1 _ _ l0 (a1.extract 0 (x7_1 : Int).toNat) true _ ?side1 ?side2 A14.out).mono ?_); (case side1 => exact cb_ HR0); (case side2 => exact HC0.out); rintro e w' ⟨rfl, ⟨nd, rfl⟩⟩; refine ⟨_, rfl, ?_⟩) | ((with_reducible refine gate_callee (f := 52) rfl ?_); refine gl_ 36 Try.func52 #[.slice A0 l0.length c0, .string (a1.extract (x7_1 : Int).toNat a1.size), .int .i64 (wrap64 (a2 - 1))] ?_; (with_reducible refine (ih k1 (by have := HK1.out; omega) _ _ l0 (a1.extract (x7_1 : Int).toNat a1.size) (wrap64 (a2 - 1)) t521 _ ?side1 ?side2 A18.out).mono ?_); (case side1 => exact cb_ HR0); (case side2 => exact HC0.out); rintro e w23 ⟨v522, rfl, ho0, hb⟩; refine ⟨_, rfl, ?_⟩; have HO523 := Aside0.mk (Kd.R_lower ho0 (below_size (bl_))); replace HB := Aside0.mk (below_step (bl_) hb); (try clear hb); (try clear hb2); (try clear hk); (try clear hi); (try clear ho0); obtain ⟨Ao24, co24, eo24⟩ := Kd.R_slice HO523.out; subst eo24) | ((with_reducible refine gate_dst (N := 43) rfl ?_); refine rl_ Kd.string 9 43 ([a1.extract 0 (x7_1 : Int).toNat] : List ByteArray) [.string (a1.extract 0 (x7_1 : Int).toNat)] ?_; intro v525 w25 ho26 hb hg_ hnew_; clear hg_ hnew_; (first | rw [← Ny524.out] at ho26 | (simp only [Int.reduceToNat] at ho26; rw [← Ny524.out] at ho26)); have HO526 := Aside0.mk (Kd.R_lower (Kd.R_new' ho26 (Kd.R_lt (kR_ HO523))) (below_size (bl_))); replace HO523 := Aside0.mk (Kd.R_elder' (kR_ HO523) (Kd.R_base ho26) hb); replace HB := Aside0.mk (below_step (bl_) hb); clear hb ho26) | ((with_reducible refine gate_builtin (b := .append) (xs := #[.tmp 43, .tmp 44]) rfl ?_); at_builtin; refine Kd.R_append_rows Kd.string (w0 := w) w.heap.size rfl (.tmp 43) (.tmp 44) 29 9 (.string ⟨#[]⟩) 16 rfl Try.underlying29 info9 rfl (by decide) (by omega) v525 y524 t521 _ _ _ (fun k_ => some k_ ≠ (.slice Ao24 t521.length co24 : Value).ownBlock) (fun _ => False) rfl rfl ?aO ?aR (fun _ _ h => h) (fun _ h => h.elim) ?aF ?aB ?aS ?aL ?_; (case aR => exact cr_ HO523); (case aB => exact (bl_)); (case aF => exact (fun k_ hk => Kd.fresh' (Kd.R_lt (kR_ HO523)) k_ hk)); (case aO => exact (by (with_reducible repeat (first | apply Kd.R_alloc | apply Kd.R_drewN | apply Kd.R_drew)); exact Kd.R_mono HO526.out (fun _ hk => hk.2))); (case aS => exact (below_size (bl_))); (case aL => have := LMc22.out; omega); intro v528 w27 ho hb hg hat; rw [← Ny527.out] at ho; replace HO523 := Aside0.mk (Kd.R_after (ok := (fun _ => True)) (kR_ HO523) hg hat); replace HB := Aside0.mk (hb); have HO529 := Aside0.mk (ho); clear HO526; clear ho hb hg hat))
   go_ret
   exact ⟨_, rfe_, by (with_reducible repeat (first | apply Kd.R_alloc | apply Kd.R_drewN | apply Kd.R_drew)); exact Kd.R_mono HO529.out (fun _ hk => trivial), bl_⟩

/-! ### spec_l10Of: function 27 -/
def spec_l10Of.f (k : Nat) (l0 : List ByteArray) (a1 : ByteArray) : Option (List ByteArray) := (spec_l10Parts.f k l0 a1 2).bind fun t530 => (if (t530.length : Int) > 0 then (some t530) else ((spec_l10Parts.f k l0 a1 3).bind fun t533 => (some t533)))
theorem spec_l10Of.mono : ∀ a0 a1 k, LeO (spec_l10Of.f k a0 a1) (spec_l10Of.f (k + 1) a0 a1) := by
 intro a0 a1 k
 unfold spec_l10Of.f
 have m0 := @spec_l10Parts.mono
 exact mn_
theorem spec_l10Of.calls (k : Nat) (A0 : Option Addr) (c0 : Nat) (l0 : List ByteArray) (a1 : ByteArray) (r : List ByteArray) (w : World) (hr0 : Kd.C Kd.string w A0 l0.length l0) (hc0 : l0.length ≤ c0) (h : spec_l10Of.f k l0 a1 = some r) :
 Calls Try.prog 27 #[.slice A0 l0.length c0, .string a1] w fun e w' => ∃ v0_ : Value, e = .returned (v0_) ∧ Kd.R Kd.string 9 w' w.heap.size (fun _ => True) v0_ r ∧ Below w.heap.size w w' := by
 have HR0 := Aside0.mk hr0
 have HC0 := Aside0.mk hc0
 clear hr0 hc0
 have HB := Aside0.mk (Below.refl w.heap.size w)
 unfold spec_l10Of.f at h; have H := h; clear h
 replace H := Option.bind_eq_some_iff.mp H
 obtain ⟨t530, A30, H⟩ := H; try dsimp only at H
 have A3 := Aside0.mk A30
 clear A30
 replace H := itcc_ H; rcases H with ⟨c4, H⟩ | ⟨c4, H⟩
 · have c4b0 : decide (0 < (t530.length : Int)) = true := decide_eq_true c4
   have c4b1 : decide (0 < t530.length) = true := decide_eq_true (by omega)
   clear c4
   obtain rfl := Option.some.inj H
   go_enter Try.func27, Try.ntmps27
   go_wp2_with (first | ((with_reducible refine gate_callee (f := 52) rfl ?_); refine gl_ 8 Try.func52 #[.slice A0 l0.length c0, .string a1, .int .i64 2] ?_; (with_reducible refine (spec_l10Parts.calls k _ _ l0 a1 2 t530 _ ?side1 ?side2 A3.out).mono ?_); (case side1 => repeat (first | exact HR0.out | (with_reducible refine Kd.C_alloc ?_ _) | (with_reducible refine Kd.C_drewN ?_ _) | (with_reducible refine Kd.C_drew ?_))); (case side2 => exact HC0.out); rintro e w5 ⟨v531, rfl, ho0, hb⟩; refine ⟨_, rfl, ?_⟩; have HO532 := Aside0.mk (Kd.R_lower ho0 (below_size (bl_))); replace HB := Aside0.mk (below_step (bl_) hb); (try clear hb); (try clear hb2); (try clear hk); (try clear hi); (try clear ho0); obtain ⟨Ao6, co6, eo6⟩ := Kd.R_slice HO532.out; subst eo6))
   go_ret
   exact ⟨_, rfe_, kR_ HO532, bl_⟩
 have c4b0 : decide (0 < (t530.length : Int)) = false := decide_eq_false c4
 have c4b1 : decide (0 < t530.length) = false := decide_eq_false (by omega)
 clear c4
 replace H := Option.bind_eq_some_iff.mp H
 obtain ⟨t533, A70, H⟩ := H; try dsimp only at H
 have A7 := Aside0.mk A70
 clear A70
 obtain rfl := Option.some.inj H
 go_enter Try.func27, Try.ntmps27
 go_wp2_with (first | ((with_reducible refine gate_callee (f := 52) rfl ?_); refine gl_ 8 Try.func52 #[.slice A0 l0.length c0, .string a1, .int .i64 2] ?_; (with_reducible refine (spec_l10Parts.calls k _ _ l0 a1 2 t530 _ ?side1 ?side2 A3.out).mono ?_); (case side1 => repeat (first | exact HR0.out | (with_reducible refine Kd.C_alloc ?_ _) | (with_reducible refine Kd.C_drewN ?_ _) | (with_reducible refine Kd.C_drew ?_))); (case side2 => exact HC0.out); rintro e w8 ⟨v531, rfl, ho0, hb⟩; refine ⟨_, rfl, ?_⟩; have HO532 := Aside0.mk (Kd.R_lower ho0 (below_size (bl_))); replace HB := Aside0.mk (below_step (bl_) hb); (try clear hb); (try clear hb2); (try clear hk); (try clear hi); (try clear ho0); obtain ⟨Ao9, co9, eo9⟩ := Kd.R_slice HO532.out; subst eo9) | ((with_reducible refine gate_callee (f := 52) rfl ?_); refine gl_ 15 Try.func52 #[.slice A0 l0.length c0, .string a1, .int .i64 3] ?_; (with_reducible refine (spec_l10Parts.calls k _ _ l0 a1 3 t533 _ ?side1 ?side2 A7.out).mono ?_); (case side1 => exact cb_ HR0); (case side2 => exact HC0.out); rintro e w10 ⟨v534, rfl, ho0, hb⟩; refine ⟨_, rfl, ?_⟩; have HO535 := Aside0.mk (Kd.R_lower (Kd.R_new' ho0 (Kd.R_lt (kR_ HO532))) (below_size (bl_))); replace HO532 := Aside0.mk (Kd.R_elder' (kR_ HO532) (Kd.R_base ho0) hb); replace HB := Aside0.mk (below_step (bl_) hb); (try clear hb); (try clear hb2); (try clear hk); (try clear hi); (try clear ho0)))
 go_ret
 exact ⟨_, rfe_, by (with_reducible repeat (first | apply Kd.R_alloc | apply Kd.R_drewN | apply Kd.R_drew)); exact Kd.R_mono HO535.out (fun _ hk => trivial), bl_⟩

/-! ### spec_PartsOf: function 8 -/
def spec_PartsOf.j0 : Nat → ByteArray → Bool → List (S68) → List (S73) → Option (List ByteArray)
 | 0, _, _, _, _ => none
 | k + 1, x1, x12, x537000, x537001 => if x12 = true then (some (([] : List ByteArray))) else ((spec_l2Words.f k x537000 x537001).bind fun t542 => ((spec_l10Of.f k t542 x1).bind fun t545 => (some t545)))
def spec_PartsOf.f (k : Nat) (l0_0 : List (S68)) (l0_1 : List (S73)) (a1 : ByteArray) : Option (List ByteArray) := (spec_BookOk.f k l0_0 l0_1).bind fun t537 => (if t537 = true then ((spec_l1Word.f k a1).bind fun t538 => (spec_PartsOf.j0 k a1 (!t538) l0_0 l0_1)) else (spec_PartsOf.j0 k a1 true l0_0 l0_1))
theorem spec_PartsOf.mono_l : ∀ k, (∀ y0 y1 y2 y3, LeO (spec_PartsOf.j0 k y0 y1 y2 y3) (spec_PartsOf.j0 (k + 1) y0 y1 y2 y3))
 | 0 => fun _ _ _ _ r h => by simp [spec_PartsOf.j0] at h
 | k + 1 => by
  have ih0 := spec_PartsOf.mono_l k
  · intro y0 y1 y2 y3
    unfold spec_PartsOf.j0
    have m0 := @spec_BookOk.mono
    have m1 := @spec_l10Of.mono
    have m2 := @spec_l1Word.mono
    have m3 := @spec_l2Words.mono
    exact mn_
theorem spec_PartsOf.mono : ∀ a0 a1 a2 k, LeO (spec_PartsOf.f k a0 a1 a2) (spec_PartsOf.f (k + 1) a0 a1 a2) := by
 intro a0 a1 a2 k
 have ih0 := spec_PartsOf.mono_l k
 unfold spec_PartsOf.f
 have m0 := @spec_BookOk.mono
 have m1 := @spec_l10Of.mono
 have m2 := @spec_l1Word.mono
 have m3 := @spec_l2Words.mono
 exact mn_
theorem spec_PartsOf.calls (k : Nat) (A0_0 : Option Addr) (c0_0 : Nat) (l0_0 : List (S68)) (A0_1 : Option Addr) (c0_1 : Nat) (l0_1 : List (S73)) (a1 : ByteArray) (r : List ByteArray) (w : World) (hr0_0 : Kd.C k68 w A0_0 l0_0.length l0_0) (hc0_0 : l0_0.length ≤ c0_0) (hr0_1 : Kd.C k73 w A0_1 l0_1.length l0_1) (hc0_1 : l0_1.length ≤ c0_1) (h : spec_PartsOf.f k l0_0 l0_1 a1 = some r) :
 Calls Try.prog 8 #[.agg #[.slice A0_0 l0_0.length c0_0, .slice A0_1 l0_1.length c0_1], .string a1] w fun e w' => ∃ v0_ : Value, e = .returned (v0_) ∧ Kd.R Kd.string 9 w' w.heap.size (fun _ => True) v0_ r ∧ Below w.heap.size w w' := by
 have hu26 := Try.underlying26
 have HR0_0 := Aside0.mk hr0_0
 have HC0_0 := Aside0.mk hc0_0
 clear hr0_0 hc0_0
 have HR0_1 := Aside0.mk hr0_1
 have HC0_1 := Aside0.mk hc0_1
 clear hr0_1 hc0_1
 have HB := Aside0.mk (Below.refl w.heap.size w)
 unfold spec_PartsOf.f at h; have H := h; clear h
 have HC3 := Aside0.mk H
 clear H
 go_enter Try.func8, Try.ntmps8
 go_upto_region 1 with (first | ((with_reducible refine gate_dst (N := 2) rfl ?_); refine be_ 2 26 #[.slice A0_0 l0_0.length c0_0, .slice A0_1 l0_1.length c0_1] ?_; intro gb536 hg w4 hbox hb; have BK536 := Aside0.mk (hbox); have GW536 := Aside0.mk ((gs_ hg : w.heap.size ≤ gb536)); have GE536 := Aside0.mk ((gs_ hg : w.heap.size ≤ gb536)); replace HB := Aside0.mk (below_step (bl_) hb); clear hb hbox hg))
 (try simp only [Act.put, List.setIfInBounds_toArray, List.set_cons_zero, List.set_cons_succ])
 go_cut [12] (fun v12 wc => ∃ (kq : Nat) (x12_2 : Bool), v12 = .bool x12_2 ∧ Aside0 (spec_PartsOf.j0 kq a1 x12_2 l0_0 l0_1 = some r) ∧ Aside0 (kq ≤ k) ∧ Aside0 (wc.heap[gb536]? = some (.cells #[(.slice A0_0 l0_0.length c0_0), (.slice A0_1 l0_1.length c0_1)] 26 (0, 0))) ∧ Aside0 (Below w.heap.size w wc))
 case first =>
  have H := HC3.out
  clear HC3
  replace H := Option.bind_eq_some_iff.mp H
  obtain ⟨t537, A50, H⟩ := H; try dsimp only at H
  have A5 := Aside0.mk A50
  clear A50
  replace H := iub_ H; rcases H with ⟨rfl, H⟩ | ⟨rfl, H⟩
  · have H' := Aside0.mk H
    clear H
    have hcz10_0 := bc0_ BK536
    have hcz10_1 := bc1_ BK536
    have hfz10_0 := blk_frozen BK536.out 0
    have hfz10_1 := blk_frozen BK536.out 1
    go_wp2_with (first | ((with_reducible refine gate_callee (f := 25) rfl ?_); refine gl_ 6 Try.func25 #[.agg #[.slice A0_0 l0_0.length c0_0, .slice A0_1 l0_1.length c0_1]] ?_; (with_reducible refine (spec_BookOk.calls k _ _ l0_0 _ _ l0_1 false _ ?side1 ?side2 ?side3 ?side4 A5.out).mono ?_); (case side1 => exact cb_ HR0_0); (case side2 => exact HC0_0.out); (case side3 => exact cb_ HR0_1); (case side4 => exact HC0_1.out); rintro e w11 ⟨rfl, hb⟩; refine ⟨_, rfl, ?_⟩; replace BK536 := Aside0.mk (blk_below (bk_ BK536) hb); replace HB := Aside0.mk (below_step (bl_) hb); (try clear hb); (try clear hb2); (try clear hk); (try clear hi)))
    go_meet
    case rel => exact ⟨_, (true), rf_, H', ⟨by first | omega | exact Nat.le_refl _⟩, ⟨by (with_reducible repeat (first | refine blk_drewN ?_ _ | refine blk_drew ?_ | refine blk_alloc ?_ _)); exact BK536.out⟩, ⟨bl_⟩⟩
  replace H := Option.bind_eq_some_iff.mp H
  obtain ⟨t538, A70, H⟩ := H; try dsimp only at H
  have A7 := Aside0.mk A70
  clear A70
  have H' := Aside0.mk H; clear H
  have hcz8_0 := bc0_ BK536
  have hcz8_1 := bc1_ BK536
  have hfz8_0 := blk_frozen BK536.out 0
  have hfz8_1 := blk_frozen BK536.out 1
  go_wp2_with (first | ((with_reducible refine gate_callee (f := 25) rfl ?_); refine gl_ 6 Try.func25 #[.agg #[.slice A0_0 l0_0.length c0_0, .slice A0_1 l0_1.length c0_1]] ?_; (with_reducible refine (spec_BookOk.calls k _ _ l0_0 _ _ l0_1 true _ ?side1 ?side2 ?side3 ?side4 A5.out).mono ?_); (case side1 => exact cb_ HR0_0); (case side2 => exact HC0_0.out); (case side3 => exact cb_ HR0_1); (case side4 => exact HC0_1.out); rintro e w9 ⟨rfl, hb⟩; refine ⟨_, rfl, ?_⟩; replace BK536 := Aside0.mk (blk_below (bk_ BK536) hb); replace HB := Aside0.mk (below_step (bl_) hb); (try clear hb); (try clear hb2); (try clear hk); (try clear hi)) | (go_at_call 26; (with_reducible refine (spec_l1Word.calls k a1 t538 _ A7.out).mono ?_); rintro e w' ⟨rfl, ⟨nd, rfl⟩⟩))
  go_meet
  case rel => exact ⟨_, (!t538), rf_, H', ⟨by first | omega | exact Nat.le_refl _⟩, ⟨by (with_reducible repeat (first | refine blk_drewN ?_ _ | refine blk_drew ?_ | refine blk_alloc ?_ _)); exact BK536.out⟩, ⟨bl_⟩⟩
 case rest =>
  clear HC3
  (try clear c2);(try clear p2);(try clear c6);(try clear c8);(try clear hcz10_0);(try clear hcz10_1);(try clear hcz8_0);(try clear hcz8_1);(try clear hfz10_0);(try clear hfz10_1);(try clear hfz8_0);(try clear hfz8_1)
  obtain ⟨kq, x12_2, rfl, HA, HJ2, BK536, HB⟩ := hcut
  cases kq with
  | zero => exact absurd HA.out (by simp [spec_PartsOf.j0])
  | succ kj2 =>
   have H := HA.out
   clear HA
   simp only [spec_PartsOf.j0] at H
   replace H := itb_ H; rcases H with ⟨rfl, H⟩ | ⟨rfl, H⟩
   · obtain ⟨y539, hy_⟩ : ∃ y_ : List ByteArray, y_ = (([] : List ByteArray)) := ⟨_, rfl⟩
     replace H : (some y539) = some r := ry_
     have Ny539 := Aside0.mk hy_; clear hy_
     obtain rfl := Option.some.inj H
     go_wp2_with (first | ((with_reducible refine gate_dst (N := 13) rfl ?_); refine rl_ Kd.string 9 13 ([] : List ByteArray) [] ?_; intro v540 w13 ho14 hb hg_ hnew_; clear hg_ hnew_; (first | rw [← Ny539.out] at ho14 | (simp only [Int.reduceToNat] at ho14; rw [← Ny539.out] at ho14)); have HO541 := Aside0.mk (Kd.R_lower ho14 (below_size (bl_))); replace BK536 := Aside0.mk (blk_below (bk_ BK536) hb); replace HB := Aside0.mk (below_step (bl_) hb); clear hb ho14))
     go_ret
     exact ⟨_, rfe_, kR_ HO541, bl_⟩
   replace H := Option.bind_eq_some_iff.mp H
   obtain ⟨t542, A150, H⟩ := H; try dsimp only at H
   have A15 := Aside0.mk A150
   clear A150
   replace H := Option.bind_eq_some_iff.mp H
   obtain ⟨t545, A160, H⟩ := H; try dsimp only at H
   have A16 := Aside0.mk A160
   clear A160
   obtain rfl := Option.some.inj H
   have hcz17_0 := bc0_ BK536
   have hcz17_1 := bc1_ BK536
   have hfz17_0 := blk_frozen BK536.out 0
   have hfz17_1 := blk_frozen BK536.out 1
   go_wp2_with (first | ((with_reducible refine gate_callee (f := 28) rfl ?_); refine gl_ 15 Try.func28 #[.agg #[.slice A0_0 l0_0.length c0_0, .slice A0_1 l0_1.length c0_1]] ?_; (with_reducible refine (spec_l2Words.calls kj2 _ _ l0_0 _ _ l0_1 t542 _ ?side1 ?side2 ?side3 ?side4 A15.out).mono ?_); (case side1 => exact cb_ HR0_0); (case side2 => exact HC0_0.out); (case side3 => exact cb_ HR0_1); (case side4 => exact HC0_1.out); rintro e w18 ⟨v543, rfl, ho0, hb⟩; refine ⟨_, rfl, ?_⟩; have HO544 := Aside0.mk (Kd.R_lower ho0 (below_size (bl_))); replace BK536 := Aside0.mk (blk_below (bk_ BK536) hb); replace HB := Aside0.mk (below_step (bl_) hb); (try clear hb); (try clear hb2); (try clear hk); (try clear hi); (try clear ho0); obtain ⟨Ao19, co19, eo19⟩ := Kd.R_slice HO544.out; subst eo19) | ((with_reducible refine gate_callee (f := 27) rfl ?_); refine gl_ 17 Try.func27 #[.slice Ao19 t542.length co19, .string a1] ?_; (with_reducible refine (spec_l10Of.calls kj2 _ _ t542 a1 t545 _ ?side1 ?side2 A16.out).mono ?_); (case side1 => exact cr_ HO544); (case side2 => exact (Kd.R_reads' HO544.out).2.1); rintro e w20 ⟨v546, rfl, ho0, hb⟩; refine ⟨_, rfl, ?_⟩; have HO547 := Aside0.mk (Kd.R_lower (Kd.R_new' ho0 (Kd.R_lt (kR_ HO544))) (below_size (bl_))); replace HO544 := Aside0.mk (Kd.R_elder' (kR_ HO544) (Kd.R_base ho0) hb); replace BK536 := Aside0.mk (blk_below (bk_ BK536) hb); replace HB := Aside0.mk (below_step (bl_) hb); (try clear hb); (try clear hb2); (try clear hk); (try clear hi); (try clear ho0)))
   go_ret
   exact ⟨_, rfe_, by (with_reducible repeat (first | apply Kd.R_alloc | apply Kd.R_drewN | apply Kd.R_drew)); exact Kd.R_mono HO547.out (fun _ hk => trivial), bl_⟩

/-! ### impl_BookKnows: function 9 -/
def impl_BookKnows.f (k : Nat) (l0_0 : List (S68)) (l0_1 : List (S73)) (a1 : ByteArray) : Option (Bool) := (impl_BookOk.f k l0_0 l0_1).bind fun t549 => (if t549 = true then ((impl_Book_words.f k l0_0 l0_1).bind fun t550 => ((slices_Contains_string_string.f k t550 a1).bind fun t553 => (some t553))) else (some false))
theorem impl_BookKnows.mono : ∀ a0 a1 a2 k, LeO (impl_BookKnows.f k a0 a1 a2) (impl_BookKnows.f (k + 1) a0 a1 a2) := by
 intro a0 a1 a2 k
 unfold impl_BookKnows.f
 have m0 := @impl_BookOk.mono
 have m1 := @impl_Book_words.mono
 have m2 := @slices_Contains_string_string.mono
 exact mn_
theorem impl_BookKnows.calls (k : Nat) (A0_0 : Option Addr) (c0_0 : Nat) (l0_0 : List (S68)) (A0_1 : Option Addr) (c0_1 : Nat) (l0_1 : List (S73)) (a1 : ByteArray) (r : Bool) (w : World) (hr0_0 : Kd.C k68 w A0_0 l0_0.length l0_0) (hc0_0 : l0_0.length ≤ c0_0) (hr0_1 : Kd.C k73 w A0_1 l0_1.length l0_1) (hc0_1 : l0_1.length ≤ c0_1) (hT : Tab w) (h : impl_BookKnows.f k l0_0 l0_1 a1 = some r) :
 Calls Try.prog 9 #[.agg #[.slice A0_0 l0_0.length c0_0, .slice A0_1 l0_1.length c0_1], .string a1] w fun e w' => e = .returned (.bool r) ∧ Below w.heap.size w w' := by
 have hu26 := Try.underlying26
 have HR0_0 := Aside0.mk hr0_0
 have HC0_0 := Aside0.mk hc0_0
 clear hr0_0 hc0_0
 have HR0_1 := Aside0.mk hr0_1
 have HC0_1 := Aside0.mk hc0_1
 clear hr0_1 hc0_1
 have HTb := Aside0.mk hT
 clear hT
 have HB := Aside0.mk (Below.refl w.heap.size w)
 unfold impl_BookKnows.f at h; have H := h; clear h
 replace H := Option.bind_eq_some_iff.mp H
 obtain ⟨t549, A30, H⟩ := H; try dsimp only at H
 have A3 := Aside0.mk A30
 clear A30
 replace H := iub_ H; rcases H with ⟨rfl, H⟩ | ⟨rfl, H⟩
 · obtain rfl := Option.some.inj H
   go_enter Try.func9, Try.ntmps9
   go_wp2_with (first | ((with_reducible refine gate_dst (N := 2) rfl ?_); refine be_ 2 26 #[.slice A0_0 l0_0.length c0_0, .slice A0_1 l0_1.length c0_1] ?_; intro gb548 hg w13 hbox hb; have BK548 := Aside0.mk (hbox); have GW548 := Aside0.mk ((gs_ hg : w.heap.size ≤ gb548)); have GE548 := Aside0.mk ((gs_ hg : w.heap.size ≤ gb548)); replace HB := Aside0.mk (below_step (bl_) hb); clear hb hbox hg; have hcz14_0 := bc0_ BK548; have hcz14_1 := bc1_ BK548; have hfz14_0 := blk_frozen BK548.out 0; have hfz14_1 := blk_frozen BK548.out 1) | ((with_reducible refine gate_callee (f := 21) rfl ?_); refine gl_ 6 Try.func21 #[.agg #[.slice A0_0 l0_0.length c0_0, .slice A0_1 l0_1.length c0_1]] ?_; (with_reducible refine (impl_BookOk.calls k _ _ l0_0 _ _ l0_1 false _ ?side1 ?side2 ?side3 ?side4 A3.out).mono ?_); (case side1 => exact cb_ HR0_0); (case side2 => exact HC0_0.out); (case side3 => exact cb_ HR0_1); (case side4 => exact HC0_1.out); rintro e w15 ⟨rfl, hb⟩; refine ⟨_, rfl, ?_⟩; replace BK548 := Aside0.mk (blk_below (bk_ BK548) hb); replace HB := Aside0.mk (below_step (bl_) hb); (try clear hb); (try clear hb2); (try clear hk); (try clear hi)))
   go_ret
   exact ⟨rfe_, bl_⟩
 replace H := Option.bind_eq_some_iff.mp H
 obtain ⟨t550, A50, H⟩ := H; try dsimp only at H
 have A5 := Aside0.mk A50
 clear A50
 replace H := Option.bind_eq_some_iff.mp H
 obtain ⟨t553, A60, H⟩ := H; try dsimp only at H
 have A6 := Aside0.mk A60
 clear A60
 obtain rfl := Option.some.inj H
 go_enter Try.func9, Try.ntmps9
 go_wp2_with (first | ((with_reducible refine gate_dst (N := 2) rfl ?_); refine be_ 2 26 #[.slice A0_0 l0_0.length c0_0, .slice A0_1 l0_1.length c0_1] ?_; intro gb548 hg w7 hbox hb; have BK548 := Aside0.mk (hbox); have GW548 := Aside0.mk ((gs_ hg : w.heap.size ≤ gb548)); have GE548 := Aside0.mk ((gs_ hg : w.heap.size ≤ gb548)); replace HB := Aside0.mk (below_step (bl_) hb); clear hb hbox hg; have hcz8_0 := bc0_ BK548; have hcz8_1 := bc1_ BK548; have hfz8_0 := blk_frozen BK548.out 0; have hfz8_1 := blk_frozen BK548.out 1) | ((with_reducible refine gate_callee (f := 21) rfl ?_); refine gl_ 6 Try.func21 #[.agg #[.slice A0_0 l0_0.length c0_0, .slice A0_1 l0_1.length c0_1]] ?_; (with_reducible refine (impl_BookOk.calls k _ _ l0_0 _ _ l0_1 true _ ?side1 ?side2 ?side3 ?side4 A3.out).mono ?_); (case side1 => exact cb_ HR0_0); (case side2 => exact HC0_0.out); (case side3 => exact cb_ HR0_1); (case side4 => exact HC0_1.out); rintro e w9 ⟨rfl, hb⟩; refine ⟨_, rfl, ?_⟩; replace BK548 := Aside0.mk (blk_below (bk_ BK548) hb); replace HB := Aside0.mk (below_step (bl_) hb); (try clear hb); (try clear hb2); (try clear hk); (try clear hi); have hcz10_0 := bc0_ BK548; have hcz10_1 := bc1_ BK548; have hfz10_0 := blk_frozen BK548.out 0; have hfz10_1 := blk_frozen BK548.out 1) | (go_at_call 23; (with_reducible refine (impl_Book_words.calls k _ _ l0_0 _ _ l0_1 t550 _ ?side1 ?side2 ?side3 ?side4 ?side5 A5.out).mono ?_); (case side1 => exact cb_ HR0_0); (case side2 => exact HC0_0.out); (case side3 => exact cb_ HR0_1); (case side4 => exact HC0_1.out); (case side5 => exact tab_below HTb.out (bl_)); rintro e w11 ⟨v551, rfl, ho0, hb⟩; have HO552 := Aside0.mk (Kd.R_lower ho0 (below_size (bl_))); replace BK548 := Aside0.mk (blk_below (bk_ BK548) hb); replace HB := Aside0.mk (below_step (bl_) hb); (try clear hb); (try clear hb2); (try clear hk); (try clear hi); (try clear ho0); obtain ⟨Ao12, co12, eo12⟩ := Kd.R_slice HO552.out; subst eo12) | (go_at_call 29; (with_reducible refine (slices_Contains_string_string.calls k _ _ t550 a1 t553 _ ?side1 ?side2 A6.out).mono ?_); (case side1 => exact cr_ HO552); (case side2 => exact (Kd.R_reads' HO552.out).2.1); rintro e w' ⟨rfl, ⟨nd, rfl⟩⟩))
 go_ret
 exact ⟨rfe_, bl_⟩

end Go.Proofs.Ytbopiacjioedeaa.P
