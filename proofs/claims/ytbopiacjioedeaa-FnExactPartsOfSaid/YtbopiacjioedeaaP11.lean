-- Written by a program of this session (wip/gen/gen.py) out of Lean's print of the loaded program; Lean checks it.
import Derived.Test.YtbopiacjioedeaaP0
import Derived.Test.YtbopiacjioedeaaSq2
namespace Go.Proofs.Ytbopiacjioedeaa.P
open Go.RowKit Go.Proofs.YtbopiacjioedeaaW.PrintWords Go.Proofs.YtbopiacjioedeaaW.PrintLast Go.Proofs.YtbopiacjioedeaaW.PrintMore
attribute [local go_sem] max2_int min2_int max_two min_two max_three min_three max_four min_four IntKind.wrap_u8 IntKind.wrap_u32 w64_256 w64_u32
set_option maxHeartbeats 8000000
set_option maxRecDepth 100000
set_option linter.unusedVariables false
set_option linter.unusedSimpArgs false

/-! ### spec_l2In: function 75 -/
def spec_l2In.l0 : Nat → List ByteArray → ByteArray → Int → Option (Bool)
 | 0, _, _, _ => none
 | k + 1, x0, x1, x5 => if x5 < (x0.length : Int) then (if 0 ≤ x5 then (if (rdOf ByteArray.empty x0 x5).toList = x1.toList then (some true) else (spec_l2In.l0 k x0 x1 (wrap64 (x5 + 1)))) else (none)) else (some false)
def spec_l2In.f (k : Nat) (l0 : List ByteArray) (a1 : ByteArray) : Option (Bool) := spec_l2In.l0 k l0 a1 0
theorem spec_l2In.mono_l : ∀ k, (∀ y0 y1 y2, LeO (spec_l2In.l0 k y0 y1 y2) (spec_l2In.l0 (k + 1) y0 y1 y2))
 | 0 => fun _ _ _ r h => by simp [spec_l2In.l0] at h
 | k + 1 => by
  have ih0 := spec_l2In.mono_l k
  · intro y0 y1 y2
    unfold spec_l2In.l0
    exact mn_
theorem spec_l2In.mono : ∀ a0 a1 k, LeO (spec_l2In.f k a0 a1) (spec_l2In.f (k + 1) a0 a1) := by
 intro a0 a1 k
 have ih0 := spec_l2In.mono_l k
 unfold spec_l2In.f
 exact mn_
theorem spec_l2In.calls (k : Nat) (A0 : Option Addr) (c0 : Nat) (l0 : List ByteArray) (a1 : ByteArray) (r : Bool) (w : World) (hr0 : Kd.C Kd.string w A0 l0.length l0) (hc0 : l0.length ≤ c0) (h : spec_l2In.f k l0 a1 = some r) :
 Calls Try.prog 75 #[.slice A0 l0.length c0, .string a1] w fun e w' => e = .returned (.bool r) ∧ Drawn0 w w' := by
 have HR0 := Aside0.mk hr0
 have HC0 := Aside0.mk hc0
 clear hr0 hc0
 unfold spec_l2In.f at h; have H := h; clear h
 have H' := Aside0.mk H; clear H
 go_enter Try.func75, Try.ntmps75
 go_wp2
 go_loopg [5] k (fun kq v5 w' => ∃ (x5_1 : Int), v5 = .int .i64 x5_1 ∧ Aside0 (spec_l2In.l0 kq l0 a1 x5_1 = some r) ∧ Aside0 (kq ≤ k) ∧ Drawn0 w w')
 case atStart => exact ⟨(0), rf_, H', ⟨Nat.le_refl _⟩, dr_⟩
 case round =>
  clear H'
  try clear p2
  obtain ⟨x5_1, rfl, HA, HK1, ⟨m1, rfl⟩⟩ := hrel
  cases gk with
  | zero => exact absurd HA.out (by simp [spec_l2In.l0])
  | succ k1 =>
   have H := HA.out
   clear HA
   simp only [spec_l2In.l0] at H
   replace H := iudd_ H; rcases H with ⟨c3b0, H⟩ | ⟨c3b0, H⟩
   · obtain rfl := Option.some.inj H
     go_wp2
     go_ret
     exact ⟨rf_, dr_⟩
   replace H := ind_ H; obtain ⟨c4b0, H⟩ := H
   replace H := itcc_ H; rcases H with ⟨c5, H⟩ | ⟨c5, H⟩
   · have c5b0 : ((rdOf ByteArray.empty l0 x5_1).toList == a1.toList) = true := beq_iff_eq.mpr c5
     have c5b1 : ((rdOf ByteArray.empty l0 x5_1).toList != a1.toList) = false := bne_eq_false_iff_eq.mpr c5
     clear c5
     obtain rfl := Option.some.inj H
     have p258 : 0 ≤ (x5_1 : Int) := od_
     have q258 : x5_1 < (l0.length : Int) := od_
     obtain ⟨ad258, e258, hx258_0⟩ := Kd.at_string HR0.out x5_1 p258 q258
     cases e258
     replace p258 := eq_true p258; replace q258 := eq_true q258
     go_wp2
     go_ret
     exact ⟨rf_, dr_⟩
   have c5b0 : ((rdOf ByteArray.empty l0 x5_1).toList == a1.toList) = false := beq_eq_false_iff_ne.mpr c5
   have c5b1 : ((rdOf ByteArray.empty l0 x5_1).toList != a1.toList) = true := bne_iff_ne.mpr c5
   have H' := Aside0.mk H; clear H
   have p258 : 0 ≤ (x5_1 : Int) := od_
   have q258 : x5_1 < (l0.length : Int) := od_
   obtain ⟨ad258, e258, hx258_0⟩ := Kd.at_string HR0.out x5_1 p258 q258
   cases e258
   replace p258 := eq_true p258; replace q258 := eq_true q258
   go_wp2
   go_roundg k1
   case measure => have := HK1.out; omega
   case rel => exact ⟨(wrap64 (x5_1 + 1)), rf_, H', ⟨by have := HK1.out; omega⟩, dr_⟩

/-! ### spec_l10Parts: function 52 -/
mutual
def spec_l10Parts.l0 : Nat → List ByteArray → ByteArray → Int → Int → Option (List ByteArray)
 | 0, _, _, _, _ => none
 | k + 1, x0, x1, x2, x7 => if (wrap64 (x7 + 3)) ≤ (x1.size : Int) then (if 0 ≤ x7 then (if x7 ≤ (x1.size : Int) then ((spec_l2In.f k x0 (x1.extract 0 (x7 : Int).toNat)).bind fun t269 => (if t269 = true then ((spec_l10Parts.f k x0 (x1.extract (x7 : Int).toNat x1.size) (wrap64 (x2 - 1))).bind fun t270 => (if (t270.length : Int) > 0 then ((some (([x1.extract 0 (x7 : Int).toNat] : List ByteArray) : List ByteArray)).bind fun y273 => (if y273.length + t270.length < 8796093022208 then (some (y273 ++ t270)) else (none))) else (spec_l10Parts.l0 k x0 x1 x2 (wrap64 (x7 + 1))))) else (spec_l10Parts.l0 k x0 x1 x2 (wrap64 (x7 + 1))))) else (none)) else (none)) else (some (([] : List ByteArray)))
def spec_l10Parts.f : Nat → List ByteArray → ByteArray → Int → Option (List ByteArray)
 | 0, _, _, _ => none
 | k + 1, l0, a1, a2 => if a2 = 1 then ((spec_l2In.f k l0 a1).bind fun t259 => (if t259 = true then (some (([a1] : List ByteArray))) else (some (([] : List ByteArray))))) else (spec_l10Parts.l0 k l0 a1 a2 3)
end
theorem spec_l10Parts.mono_l : ∀ k, (∀ y0 y1 y2, LeO (spec_l10Parts.f k y0 y1 y2) (spec_l10Parts.f (k + 1) y0 y1 y2)) ∧ (∀ y0 y1 y2 y3, LeO (spec_l10Parts.l0 k y0 y1 y2 y3) (spec_l10Parts.l0 (k + 1) y0 y1 y2 y3))
 | 0 => ⟨fun _ _ _ r h => by simp [spec_l10Parts.f] at h, fun _ _ _ _ r h => by simp [spec_l10Parts.l0] at h⟩
 | k + 1 => by
  obtain ⟨ih0, ih1⟩ := spec_l10Parts.mono_l k
  refine ⟨?_, ?_⟩
  · intro y0 y1 y2
    unfold spec_l10Parts.f
    have m0 := @spec_l2In.mono
    exact mn_
  · intro y0 y1 y2 y3
    unfold spec_l10Parts.l0
    have m0 := @spec_l2In.mono
    exact mn_
theorem spec_l10Parts.mono : ∀ a0 a1 a2 k, LeO (spec_l10Parts.f k a0 a1 a2) (spec_l10Parts.f (k + 1) a0 a1 a2) := by
 intro a0 a1 a2 k
 obtain ⟨ih0, ih1⟩ := spec_l10Parts.mono_l k
 exact ih0 a0 a1 a2
theorem spec_l10Parts.calls (k : Nat) : ∀ (A0 : Option Addr) (c0 : Nat) (l0 : List ByteArray) (a1 : ByteArray) (a2 : Int) (r : List ByteArray) (w : World) (hr0 : Kd.C Kd.string w A0 l0.length l0) (hc0 : l0.length ≤ c0) (h : spec_l10Parts.f k l0 a1 a2 = some r),
 Calls Try.prog 52 #[.slice A0 l0.length c0, .string a1, .int .i64 a2] w fun e w' => ∃ v0_ : Value, e = .returned (v0_) ∧ Kd.R Kd.string 9 w' w.heap.size (fun _ => True) v0_ r ∧ Below w.heap.size w w' := by
 induction k using Nat.strongRecOn with
 | _ k ih =>
 intro A0 c0 l0 a1 a2 r w hr0 hc0 h
 cases k with
 | zero => exact absurd h (by simp [spec_l10Parts.f])
 | succ k =>
 simp only [spec_l10Parts.f] at h
 have HR0 := Aside0.mk hr0
 have HC0 := Aside0.mk hc0
 clear hr0 hc0
 have HB := Aside0.mk (Below.refl w.heap.size w)
 have H : (if a2 = 1 then ((spec_l2In.f k l0 a1).bind fun t259 => (if t259 = true then (some (([a1] : List ByteArray))) else (some (([] : List ByteArray))))) else (spec_l10Parts.l0 k l0 a1 a2 3)) = some r := h
 clear h
 replace H := itcc_ H; rcases H with ⟨c4, H⟩ | ⟨c4, H⟩
 · have c4b0 : (a2 == 1) = true := beq_iff_eq.mpr c4
   have c4b1 : (a2 != 1) = false := bne_eq_false_iff_eq.mpr c4
   clear c4
   replace H := Option.bind_eq_some_iff.mp H
   obtain ⟨t259, A50, H⟩ := H; try dsimp only at H
   have A5 := Aside0.mk A50
   clear A50
   replace H := iub_ H; rcases H with ⟨rfl, H⟩ | ⟨rfl, H⟩
   · obtain ⟨y263, hy_⟩ : ∃ y_ : List ByteArray, y_ = (([] : List ByteArray)) := ⟨_, rfl⟩
     replace H : (some y263) = some r := ry_
     have Ny263 := Aside0.mk hy_; clear hy_
     obtain rfl := Option.some.inj H
     go_enter Try.func52, Try.ntmps52
     go_wp2_with (first | ((with_reducible refine gate_callee (f := 75) rfl ?_); refine gl_ 13 Try.func75 #[.slice A0 l0.length c0, .string a1] ?_; (with_reducible refine (spec_l2In.calls k _ _ l0 a1 false _ ?side1 ?side2 A5.out).mono ?_); (case side1 => repeat (first | exact HR0.out | (with_reducible refine Kd.C_alloc ?_ _) | (with_reducible refine Kd.C_drewN ?_ _) | (with_reducible refine Kd.C_drew ?_))); (case side2 => exact HC0.out); rintro e w' ⟨rfl, ⟨nd, rfl⟩⟩; refine ⟨_, rfl, ?_⟩) | ((with_reducible refine gate_dst (N := 16) rfl ?_); refine rl_ Kd.string 9 16 ([] : List ByteArray) [] ?_; intro v264 w9 ho10 hb hg_ hnew_; clear hg_ hnew_; (first | rw [← Ny263.out] at ho10 | (simp only [Int.reduceToNat, Int.toNat_natCast] at ho10; rw [← Ny263.out] at ho10)); have HO265 := Aside0.mk (Kd.R_lower ho10 (below_size (bl_))); replace HB := Aside0.mk (below_step (bl_) hb); clear hb ho10))
     go_ret
     exact ⟨_, rfe_, kR_ HO265, bl_⟩
   obtain ⟨y260, hy_⟩ : ∃ y_ : List ByteArray, y_ = (([a1] : List ByteArray)) := ⟨_, rfl⟩
   replace H : (some y260) = some r := ry_
   have Ny260 := Aside0.mk hy_; clear hy_
   obtain rfl := Option.some.inj H
   go_enter Try.func52, Try.ntmps52
   go_wp2_with (first | ((with_reducible refine gate_callee (f := 75) rfl ?_); refine gl_ 13 Try.func75 #[.slice A0 l0.length c0, .string a1] ?_; (with_reducible refine (spec_l2In.calls k _ _ l0 a1 true _ ?side1 ?side2 A5.out).mono ?_); (case side1 => repeat (first | exact HR0.out | (with_reducible refine Kd.C_alloc ?_ _) | (with_reducible refine Kd.C_drewN ?_ _) | (with_reducible refine Kd.C_drew ?_))); (case side2 => exact HC0.out); rintro e w' ⟨rfl, ⟨nd, rfl⟩⟩; refine ⟨_, rfl, ?_⟩) | ((with_reducible refine gate_dst (N := 15) rfl ?_); refine rl_ Kd.string 9 15 ([a1] : List ByteArray) [.string a1] ?_; intro v261 w7 ho8 hb hg_ hnew_; clear hg_ hnew_; (first | rw [← Ny260.out] at ho8 | (simp only [Int.reduceToNat, Int.toNat_natCast] at ho8; rw [← Ny260.out] at ho8)); have HO262 := Aside0.mk (Kd.R_lower ho8 (below_size (bl_))); replace HB := Aside0.mk (below_step (bl_) hb); clear hb ho8))
   go_ret
   exact ⟨_, rfe_, kR_ HO262, bl_⟩
 have c4b0 : (a2 == 1) = false := beq_eq_false_iff_ne.mpr c4
 have c4b1 : (a2 != 1) = true := bne_iff_ne.mpr c4
 have H' := Aside0.mk H; clear H
 go_enter Try.func52, Try.ntmps52
 go_wp2
 go_loopg [7] k (fun kq v7 w' => ∃ (x7_1 : Int), v7 = .int .i64 x7_1 ∧ Aside0 (spec_l10Parts.l0 kq l0 a1 a2 x7_1 = some r) ∧ Aside0 (kq ≤ k) ∧ Aside0 (Below w.heap.size w w'))
 case atStart => exact ⟨(3), rf_, H', ⟨Nat.le_refl _⟩, ⟨bl_⟩⟩
 case round =>
  clear H'
  (try clear p2);(try clear c4);(try clear c4b0);(try clear c4b1);(try clear c5);(try clear c6);(try clear c7)
  obtain ⟨x7_1, rfl, HA, HK1, HB⟩ := hrel
  cases gk with
  | zero => exact absurd HA.out (by simp [spec_l10Parts.l0])
  | succ k1 =>
   have H := HA.out
   clear HA
   simp only [spec_l10Parts.l0] at H
   replace H := iudd_ H; rcases H with ⟨c11b0, H⟩ | ⟨c11b0, H⟩
   · obtain ⟨y266, hy_⟩ : ∃ y_ : List ByteArray, y_ = (([] : List ByteArray)) := ⟨_, rfl⟩
     replace H : (some y266) = some r := ry_
     have Ny266 := Aside0.mk hy_; clear hy_
     obtain rfl := Option.some.inj H
     go_wp2_with (first | ((with_reducible refine gate_dst (N := 46) rfl ?_); refine rl_ Kd.string 9 46 ([] : List ByteArray) [] ?_; intro v267 w30 ho31 hb hg_ hnew_; clear hg_ hnew_; (first | rw [← Ny266.out] at ho31 | (simp only [Int.reduceToNat, Int.toNat_natCast] at ho31; rw [← Ny266.out] at ho31)); have HO268 := Aside0.mk (Kd.R_lower ho31 (below_size (bl_))); replace HB := Aside0.mk (below_step (bl_) hb); clear hb ho31))
     go_ret
     exact ⟨_, rfe_, kR_ HO268, bl_⟩
   replace H := inc_ H; obtain ⟨c12, H⟩ := H
   have c12b0 := eq_true c12
   have c12b1 : decide (0 ≤ x7_1) = true := decide_eq_true c12
   clear c12
   replace H := inc_ H; obtain ⟨c13, H⟩ := H
   have c13b0 := eq_true c13
   have c13b1 : decide (x7_1 ≤ (a1.size : Int)) = true := decide_eq_true c13
   clear c13
   replace H := Option.bind_eq_some_iff.mp H
   obtain ⟨t269, A140, H⟩ := H; try dsimp only at H
   have A14 := Aside0.mk A140
   clear A140
   replace H := iub_ H; rcases H with ⟨rfl, H⟩ | ⟨rfl, H⟩
   · have H' := Aside0.mk H
     clear H
     go_wp2_with (first | ((with_reducible refine gate_callee (f := 75) rfl ?_); refine gl_ 28 Try.func75 #[.slice A0 l0.length c0, .string (a1.extract 0 (x7_1 : Int).toNat)] ?_; (with_reducible refine (spec_l2In.calls k1 _ _ l0 (a1.extract 0 (x7_1 : Int).toNat) false _ ?side1 ?side2 A14.out).mono ?_); (case side1 => exact cb_ HR0); (case side2 => exact HC0.out); rintro e w' ⟨rfl, ⟨nd, rfl⟩⟩; refine ⟨_, rfl, ?_⟩))
     go_roundg k1
     case measure => have := HK1.out; omega
     case rel => exact ⟨(wrap64 (x7_1 + 1)), rf_, H', ⟨by have := HK1.out; omega⟩, ⟨bl_⟩⟩
   have c16b0 := eq_true (od_ : 0 ≤ x7_1)
   have c17b0 := eq_true (od_ : x7_1 ≤ (a1.size : Int))
   replace H := Option.bind_eq_some_iff.mp H
   obtain ⟨t270, A180, H⟩ := H; try dsimp only at H
   have A18 := Aside0.mk A180
   clear A180
   replace H := iucc_ H; rcases H with ⟨c19, H⟩ | ⟨c19, H⟩
   · have c19b0 : decide (0 < (t270.length : Int)) = false := decide_eq_false c19
     have c19b1 : decide (0 < t270.length) = false := decide_eq_false (by omega)
     clear c19
     have H' := Aside0.mk H; clear H
     go_wp2_with (first | ((with_reducible refine gate_callee (f := 75) rfl ?_); refine gl_ 28 Try.func75 #[.slice A0 l0.length c0, .string (a1.extract 0 (x7_1 : Int).toNat)] ?_; (with_reducible refine (spec_l2In.calls k1 _ _ l0 (a1.extract 0 (x7_1 : Int).toNat) true _ ?side1 ?side2 A14.out).mono ?_); (case side1 => exact cb_ HR0); (case side2 => exact HC0.out); rintro e w' ⟨rfl, ⟨nd, rfl⟩⟩; refine ⟨_, rfl, ?_⟩) | ((with_reducible refine gate_callee (f := 52) rfl ?_); refine gl_ 36 Try.func52 #[.slice A0 l0.length c0, .string (a1.extract (x7_1 : Int).toNat a1.size), .int .i64 (wrap64 (a2 - 1))] ?_; (with_reducible refine (ih k1 (by have := HK1.out; omega) _ _ l0 (a1.extract (x7_1 : Int).toNat a1.size) (wrap64 (a2 - 1)) t270 _ ?side1 ?side2 A18.out).mono ?_); (case side1 => exact cb_ HR0); (case side2 => exact HC0.out); rintro e w28 ⟨v271, rfl, ho0, hb⟩; refine ⟨_, rfl, ?_⟩; have HO272 := Aside0.mk (Kd.R_lower ho0 (below_size (bl_))); replace HB := Aside0.mk (below_step (bl_) hb); (try clear hb); (try clear hb2); (try clear hk); (try clear hi); (try clear ho0); obtain ⟨Ao29, co29, eo29⟩ := Kd.R_slice HO272.out; subst eo29))
     go_roundg k1
     case measure => have := HK1.out; omega
     case rel => exact ⟨(wrap64 (x7_1 + 1)), rf_, H', ⟨by have := HK1.out; omega⟩, ⟨bl_⟩⟩
   have c19b0 : decide (0 < (t270.length : Int)) = true := decide_eq_true c19
   have c19b1 : decide (0 < t270.length) = true := decide_eq_true (by omega)
   clear c19
   have c20b0 := eq_true (od_ : 0 ≤ x7_1)
   have c21b0 := eq_true (od_ : x7_1 ≤ (a1.size : Int))
   obtain ⟨y273, hy_⟩ : ∃ y_ : List ByteArray, y_ = (([a1.extract 0 (x7_1 : Int).toNat] : List ByteArray)) := ⟨_, rfl⟩
   replace H : (if y273.length + t270.length < 8796093022208 then (some (y273 ++ t270)) else (none)) = some r := ry_
   have Ny273 := Aside0.mk hy_; clear hy_
   replace H := inc_ H; obtain ⟨c22, H⟩ := H
   have LMc22 := Aside0.mk c22
   clear c22
   obtain ⟨y276, hy_⟩ : ∃ y_ : List ByteArray, y_ = (y273 ++ t270) := ⟨_, rfl⟩
   replace H : (some y276) = some r := ry_
   have Ny276 := Aside0.mk hy_; clear hy_
   obtain rfl := Option.some.inj H
   go_wp2_with (first | ((with_reducible refine gate_callee (f := 75) rfl ?_); refine gl_ 28 Try.func75 #[.slice A0 l0.length c0, .string (a1.extract 0 (x7_1 : Int).toNat)] ?_; (with_reducible refine (spec_l2In.calls k1 _ _ l0 (a1.extract 0 (x7_1 : Int).toNat) true _ ?side1 ?side2 A14.out).mono ?_); (case side1 => exact cb_ HR0); (case side2 => exact HC0.out); rintro e w' ⟨rfl, ⟨nd, rfl⟩⟩; refine ⟨_, rfl, ?_⟩) | ((with_reducible refine gate_callee (f := 52) rfl ?_); refine gl_ 36 Try.func52 #[.slice A0 l0.length c0, .string (a1.extract (x7_1 : Int).toNat a1.size), .int .i64 (wrap64 (a2 - 1))] ?_; (with_reducible refine (ih k1 (by have := HK1.out; omega) _ _ l0 (a1.extract (x7_1 : Int).toNat a1.size) (wrap64 (a2 - 1)) t270 _ ?side1 ?side2 A18.out).mono ?_); (case side1 => exact cb_ HR0); (case side2 => exact HC0.out); rintro e w23 ⟨v271, rfl, ho0, hb⟩; refine ⟨_, rfl, ?_⟩; have HO272 := Aside0.mk (Kd.R_lower ho0 (below_size (bl_))); replace HB := Aside0.mk (below_step (bl_) hb); (try clear hb); (try clear hb2); (try clear hk); (try clear hi); (try clear ho0); obtain ⟨Ao24, co24, eo24⟩ := Kd.R_slice HO272.out; subst eo24) | ((with_reducible refine gate_dst (N := 43) rfl ?_); refine rl_ Kd.string 9 43 ([a1.extract 0 (x7_1 : Int).toNat] : List ByteArray) [.string (a1.extract 0 (x7_1 : Int).toNat)] ?_; intro v274 w25 ho26 hb hg_ hnew_; clear hg_ hnew_; (first | rw [← Ny273.out] at ho26 | (simp only [Int.reduceToNat, Int.toNat_natCast] at ho26; rw [← Ny273.out] at ho26)); have HO275 := Aside0.mk (Kd.R_lower (Kd.R_new' ho26 (Kd.R_lt (kR_ HO272))) (below_size (bl_))); replace HO272 := Aside0.mk (Kd.R_elder' (kR_ HO272) (Kd.R_base ho26) hb); replace HB := Aside0.mk (below_step (bl_) hb); clear hb ho26) | ((with_reducible refine gate_builtin (b := .append) (xs := #[.tmp 43, .tmp 44]) rfl ?_); at_builtin; refine Kd.R_append_rows Kd.string (w0 := w) w.heap.size rfl (.tmp 43) (.tmp 44) 29 9 (.string ⟨#[]⟩) 16 rfl Try.underlying29 info9 rfl (by decide) (by omega) v274 y273 t270 _ _ _ (fun k_ => some k_ ≠ (.slice Ao24 t270.length co24 : Value).ownBlock) (fun _ => False) rfl rfl ?aO ?aR (fun _ _ h => h) (fun _ h => h.elim) ?aF ?aB ?aS ?aL ?_; (case aR => exact cr_ HO272); (case aB => exact (bl_)); (case aF => exact (fun k_ hk => Kd.fresh' (Kd.R_lt (kR_ HO272)) k_ hk)); (case aO => exact (by (with_reducible repeat (first | apply Kd.R_alloc | apply Kd.R_drewN | apply Kd.R_drew)); exact Kd.R_mono HO275.out (fun _ hk => hk.2))); (case aS => exact (below_size (bl_))); (case aL => have := LMc22.out; omega); intro v277 w27 ho hb hg hat; rw [← Ny276.out] at ho; replace HO272 := Aside0.mk (Kd.R_after (ok := (fun _ => True)) (kR_ HO272) hg hat); replace HB := Aside0.mk (hb); have HO278 := Aside0.mk (ho); clear HO275; clear ho hb hg hat))
   go_ret
   exact ⟨_, rfe_, by (with_reducible repeat (first | apply Kd.R_alloc | apply Kd.R_drewN | apply Kd.R_drew)); exact Kd.R_mono HO278.out (fun _ hk => trivial), bl_⟩

/-! ### spec_l10Of: function 27 -/
def spec_l10Of.f (k : Nat) (l0 : List ByteArray) (a1 : ByteArray) : Option (List ByteArray) := (spec_l10Parts.f k l0 a1 2).bind fun t279 => (if (t279.length : Int) > 0 then (some t279) else ((spec_l10Parts.f k l0 a1 3).bind fun t282 => (some t282)))
theorem spec_l10Of.mono : ∀ a0 a1 k, LeO (spec_l10Of.f k a0 a1) (spec_l10Of.f (k + 1) a0 a1) := by
 intro a0 a1 k
 unfold spec_l10Of.f
 have m0 := @spec_l10Parts.mono
 exact mn_
theorem spec_l10Of.calls (k : Nat) (A0 : Option Addr) (c0 : Nat) (l0 : List ByteArray) (a1 : ByteArray) (r : List ByteArray) (w : World) (hr0 : Kd.C Kd.string w A0 l0.length l0) (hc0 : l0.length ≤ c0) (h : spec_l10Of.f k l0 a1 = some r) :
 Calls Try.prog 27 #[.slice A0 l0.length c0, .string a1] w fun e w' => ∃ v0_ : Value, e = .returned (v0_) ∧ Kd.R Kd.string 9 w' w.heap.size (fun _ => True) v0_ r ∧ Below w.heap.size w w' := by
 have HR0 := Aside0.mk hr0
 have HC0 := Aside0.mk hc0
 clear hr0 hc0
 have HB := Aside0.mk (Below.refl w.heap.size w)
 unfold spec_l10Of.f at h; have H := h; clear h
 replace H := Option.bind_eq_some_iff.mp H
 obtain ⟨t279, A30, H⟩ := H; try dsimp only at H
 have A3 := Aside0.mk A30
 clear A30
 replace H := itcc_ H; rcases H with ⟨c4, H⟩ | ⟨c4, H⟩
 · have c4b0 : decide (0 < (t279.length : Int)) = true := decide_eq_true c4
   have c4b1 : decide (0 < t279.length) = true := decide_eq_true (by omega)
   clear c4
   obtain rfl := Option.some.inj H
   go_enter Try.func27, Try.ntmps27
   go_wp2_with (first | ((with_reducible refine gate_callee (f := 52) rfl ?_); refine gl_ 8 Try.func52 #[.slice A0 l0.length c0, .string a1, .int .i64 2] ?_; (with_reducible refine (spec_l10Parts.calls k _ _ l0 a1 2 t279 _ ?side1 ?side2 A3.out).mono ?_); (case side1 => repeat (first | exact HR0.out | (with_reducible refine Kd.C_alloc ?_ _) | (with_reducible refine Kd.C_drewN ?_ _) | (with_reducible refine Kd.C_drew ?_))); (case side2 => exact HC0.out); rintro e w5 ⟨v280, rfl, ho0, hb⟩; refine ⟨_, rfl, ?_⟩; have HO281 := Aside0.mk (Kd.R_lower ho0 (below_size (bl_))); replace HB := Aside0.mk (below_step (bl_) hb); (try clear hb); (try clear hb2); (try clear hk); (try clear hi); (try clear ho0); obtain ⟨Ao6, co6, eo6⟩ := Kd.R_slice HO281.out; subst eo6))
   go_ret
   exact ⟨_, rfe_, kR_ HO281, bl_⟩
 have c4b0 : decide (0 < (t279.length : Int)) = false := decide_eq_false c4
 have c4b1 : decide (0 < t279.length) = false := decide_eq_false (by omega)
 clear c4
 replace H := Option.bind_eq_some_iff.mp H
 obtain ⟨t282, A70, H⟩ := H; try dsimp only at H
 have A7 := Aside0.mk A70
 clear A70
 obtain rfl := Option.some.inj H
 go_enter Try.func27, Try.ntmps27
 go_wp2_with (first | ((with_reducible refine gate_callee (f := 52) rfl ?_); refine gl_ 8 Try.func52 #[.slice A0 l0.length c0, .string a1, .int .i64 2] ?_; (with_reducible refine (spec_l10Parts.calls k _ _ l0 a1 2 t279 _ ?side1 ?side2 A3.out).mono ?_); (case side1 => repeat (first | exact HR0.out | (with_reducible refine Kd.C_alloc ?_ _) | (with_reducible refine Kd.C_drewN ?_ _) | (with_reducible refine Kd.C_drew ?_))); (case side2 => exact HC0.out); rintro e w8 ⟨v280, rfl, ho0, hb⟩; refine ⟨_, rfl, ?_⟩; have HO281 := Aside0.mk (Kd.R_lower ho0 (below_size (bl_))); replace HB := Aside0.mk (below_step (bl_) hb); (try clear hb); (try clear hb2); (try clear hk); (try clear hi); (try clear ho0); obtain ⟨Ao9, co9, eo9⟩ := Kd.R_slice HO281.out; subst eo9) | ((with_reducible refine gate_callee (f := 52) rfl ?_); refine gl_ 15 Try.func52 #[.slice A0 l0.length c0, .string a1, .int .i64 3] ?_; (with_reducible refine (spec_l10Parts.calls k _ _ l0 a1 3 t282 _ ?side1 ?side2 A7.out).mono ?_); (case side1 => exact cb_ HR0); (case side2 => exact HC0.out); rintro e w10 ⟨v283, rfl, ho0, hb⟩; refine ⟨_, rfl, ?_⟩; have HO284 := Aside0.mk (Kd.R_lower (Kd.R_new' ho0 (Kd.R_lt (kR_ HO281))) (below_size (bl_))); replace HO281 := Aside0.mk (Kd.R_elder' (kR_ HO281) (Kd.R_base ho0) hb); replace HB := Aside0.mk (below_step (bl_) hb); (try clear hb); (try clear hb2); (try clear hk); (try clear hi); (try clear ho0)))
 go_ret
 exact ⟨_, rfe_, by (with_reducible repeat (first | apply Kd.R_alloc | apply Kd.R_drewN | apply Kd.R_drew)); exact Kd.R_mono HO284.out (fun _ hk => trivial), bl_⟩

/-! ### spec_l2Has: function 87 -/
def spec_l2Has.l0 : Nat → ByteArray → ByteArray → Int → Option (Bool)
 | 0, _, _, _ => none
 | k + 1, x0, x1, x5 => if x5 < (x0.size : Int) then (if 0 ≤ x5 then (if x5 ≤ (wrap64 (x5 + 1)) then (if (wrap64 (x5 + 1)) ≤ (x0.size : Int) then (if (x0.extract (x5 : Int).toNat ((wrap64 (x5 + 1)) : Int).toNat).toList = x1.toList then (some true) else (spec_l2Has.l0 k x0 x1 (wrap64 (x5 + 1)))) else (none)) else (none)) else (none)) else (some false)
def spec_l2Has.f (k : Nat) (a0 : ByteArray) (a1 : ByteArray) : Option (Bool) := spec_l2Has.l0 k a0 a1 0
theorem spec_l2Has.mono_l : ∀ k, (∀ y0 y1 y2, LeO (spec_l2Has.l0 k y0 y1 y2) (spec_l2Has.l0 (k + 1) y0 y1 y2))
 | 0 => fun _ _ _ r h => by simp [spec_l2Has.l0] at h
 | k + 1 => by
  have ih0 := spec_l2Has.mono_l k
  · intro y0 y1 y2
    unfold spec_l2Has.l0
    exact mn_
theorem spec_l2Has.mono : ∀ a0 a1 k, LeO (spec_l2Has.f k a0 a1) (spec_l2Has.f (k + 1) a0 a1) := by
 intro a0 a1 k
 have ih0 := spec_l2Has.mono_l k
 unfold spec_l2Has.f
 exact mn_
theorem spec_l2Has.calls (k : Nat) (a0 : ByteArray) (a1 : ByteArray) (r : Bool) (w : World) (h : spec_l2Has.f k a0 a1 = some r) :
 Calls Try.prog 87 #[.string a0, .string a1] w fun e w' => e = .returned (.bool r) ∧ Drawn0 w w' := by
 unfold spec_l2Has.f at h; have H := h; clear h
 have H' := Aside0.mk H; clear H
 go_enter Try.func87, Try.ntmps87
 go_wp2
 go_loopg [5] k (fun kq v5 w' => ∃ (x5_1 : Int), v5 = .int .i64 x5_1 ∧ Aside0 (spec_l2Has.l0 kq a0 a1 x5_1 = some r) ∧ Aside0 (kq ≤ k) ∧ Drawn0 w w')
 case atStart => exact ⟨(0), rf_, H', ⟨Nat.le_refl _⟩, dr_⟩
 case round =>
  clear H'
  try clear p2
  obtain ⟨x5_1, rfl, HA, HK1, ⟨m1, rfl⟩⟩ := hrel
  cases gk with
  | zero => exact absurd HA.out (by simp [spec_l2Has.l0])
  | succ k1 =>
   have H := HA.out
   clear HA
   simp only [spec_l2Has.l0] at H
   replace H := iudd_ H; rcases H with ⟨c3b0, H⟩ | ⟨c3b0, H⟩
   · obtain rfl := Option.some.inj H
     go_wp2
     go_ret
     exact ⟨rf_, dr_⟩
   replace H := inc_ H; obtain ⟨c4, H⟩ := H
   have c4b0 := eq_true c4
   have c4b1 : decide (0 ≤ x5_1) = true := decide_eq_true c4
   clear c4
   replace H := inc_ H; obtain ⟨c5, H⟩ := H
   have c5b0 := eq_true c5
   have c5b1 : decide (x5_1 ≤ (wrap64 (x5_1 + 1))) = true := decide_eq_true c5
   replace H := inc_ H; obtain ⟨c6, H⟩ := H
   have c6b0 := eq_true c6
   have c6b1 : decide ((wrap64 (x5_1 + 1)) ≤ (a0.size : Int)) = true := decide_eq_true c6
   replace H := itcc_ H; rcases H with ⟨c7, H⟩ | ⟨c7, H⟩
   · have c7b0 : ((a0.extract (x5_1 : Int).toNat ((wrap64 (x5_1 + 1)) : Int).toNat).toList == a1.toList) = true := beq_iff_eq.mpr c7
     have c7b1 : ((a0.extract (x5_1 : Int).toNat ((wrap64 (x5_1 + 1)) : Int).toNat).toList != a1.toList) = false := bne_eq_false_iff_eq.mpr c7
     clear c7
     obtain rfl := Option.some.inj H
     go_wp2
     go_ret
     exact ⟨rf_, dr_⟩
   have c7b0 : ((a0.extract (x5_1 : Int).toNat ((wrap64 (x5_1 + 1)) : Int).toNat).toList == a1.toList) = false := beq_eq_false_iff_ne.mpr c7
   have c7b1 : ((a0.extract (x5_1 : Int).toNat ((wrap64 (x5_1 + 1)) : Int).toNat).toList != a1.toList) = true := bne_iff_ne.mpr c7
   have H' := Aside0.mk H; clear H
   go_wp2
   go_roundg k1
   case measure => have := HK1.out; omega
   case rel => exact ⟨(wrap64 (x5_1 + 1)), rf_, H', ⟨by have := HK1.out; omega⟩, dr_⟩

end Go.Proofs.Ytbopiacjioedeaa.P
