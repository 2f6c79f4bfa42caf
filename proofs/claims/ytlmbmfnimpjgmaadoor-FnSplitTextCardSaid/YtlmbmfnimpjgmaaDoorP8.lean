-- Written by a program of this session (wip/gen/gen.py) out of Lean's print of the loaded program; Lean checks it.
import Derived.Test.YtlmbmfnimpjgmaaDoorP0
import Derived.Test.YtlmbmfnimpjgmaaDoorSq
import Derived.Test.YtlmbmfnimpjgmaaDoorP2
import Derived.Test.YtlmbmfnimpjgmaaDoorP7
namespace Go.Proofs.YtlmbmfnimpjgmaaDoor.P
open Go.RowKit Go.Proofs.YtlmbmfnimpjgmaaDoorW.PrintWords Go.Proofs.YtlmbmfnimpjgmaaDoorW.PrintLast Go.Proofs.YtlmbmfnimpjgmaaDoorW.PrintMore
attribute [local go_sem] max2_int min2_int max_two min_two max_three min_three max_four min_four IntKind.wrap_u8 IntKind.wrap_u32 w64_256 w64_u32
set_option linter.unusedVariables false
set_option linter.unusedSimpArgs false

/-! ### impl_SplitText: function 6 -/
def impl_SplitText.l0 : Nat → ByteArray → List Int → Int → Option (ByteArray)
 | 0, _, _, _ => none
 | k + 1, x5, x6, x7 => if x7 ≥ 0 then (if 0 ≤ x7 then (if x7 < (x6.length : Int) then (if 0 ≤ (rd x6 x7) then (if (rd x6 x7) ≤ (x5.size : Int) then (if ((rd x6 x7) : Int).toNat + 1 ≤ 9223372036854775807 then (if ((rd x6 x7) : Int).toNat + 1 + (x5.size - ((rd x6 x7) : Int).toNat) ≤ 9223372036854775807 then (impl_SplitText.l0 k (((x5.extract 0 ((rd x6 x7) : Int).toNat) ++ (⟨#[45]⟩ : ByteArray)) ++ (x5.extract ((rd x6 x7) : Int).toNat x5.size)) x6 (wrap64 (x7 - 1))) else (none)) else (none)) else (none)) else (none)) else (none)) else (none)) else (some x5)
def impl_SplitText.f (k : Nat) (l0 : List (S42)) (a1 : ByteArray) : Option (ByteArray) := (impl_SplitAt.f k l0 a1).bind fun t287 => (impl_SplitText.l0 k a1 t287 (wrap64 ((t287.length : Int) - 1)))
theorem impl_SplitText.mono_l : ∀ k, (∀ y0 y1 y2, LeO (impl_SplitText.l0 k y0 y1 y2) (impl_SplitText.l0 (k + 1) y0 y1 y2))
 | 0 => fun _ _ _ r h => by simp [impl_SplitText.l0] at h
 | k + 1 => by
  have ih0 := impl_SplitText.mono_l k
  · intro y0 y1 y2
    unfold impl_SplitText.l0
    repeat' first
    | (with_reducible exact ih0 _ _ _)
    | (with_reducible exact impl_SplitAt.mono _ _ _)
    | (with_reducible exact LeO.refl _)
    | (with_reducible exact LeO.none _)
    | (with_reducible refine LeO.ite ?_ ?_)
    | (with_reducible refine LeO.bind ?_ (fun _ => ?_))
    | exact ih0 _ _ _
    | exact impl_SplitAt.mono _ _ _
    | exact LeO.none _
    | refine LeO.ite ?_ ?_
    | refine LeO.bind ?_ (fun _ => ?_)
theorem impl_SplitText.mono : ∀ a0 a1 k, LeO (impl_SplitText.f k a0 a1) (impl_SplitText.f (k + 1) a0 a1) := by
 intro a0 a1 k
 have ih0 := impl_SplitText.mono_l k
 unfold impl_SplitText.f
 repeat' first
  | (with_reducible exact ih0 _ _ _)
  | (with_reducible exact impl_SplitAt.mono _ _ _)
  | (with_reducible exact LeO.refl _)
  | (with_reducible exact LeO.none _)
  | (with_reducible refine LeO.ite ?_ ?_)
  | (with_reducible refine LeO.bind ?_ (fun _ => ?_))
  | exact ih0 _ _ _
  | exact impl_SplitAt.mono _ _ _
  | exact LeO.none _
  | refine LeO.ite ?_ ?_
  | refine LeO.bind ?_ (fun _ => ?_)
set_option maxHeartbeats 8000000 in
set_option maxRecDepth 100000 in
theorem impl_SplitText.calls (k : Nat) (A0 : Option Addr) (c0 : Nat) (l0 : List (S42)) (a1 : ByteArray) (r : ByteArray) (w : World) (hr0 : Kd.C k42 w A0 l0.length l0) (hc0 : l0.length ≤ c0) (h : impl_SplitText.f k l0 a1 = some r) :
 Calls Tryd.prog 6 #[.slice A0 l0.length c0, .string a1] w fun e w' => e = .returned (.string r) ∧ Below w.heap.size w w' := by
 have HR0 := Aside0.mk hr0
 have HC0 := Aside0.mk hc0
 clear hr0 hc0
 have HB := Aside0.mk (Below.refl w.heap.size w)
 have H : ((impl_SplitAt.f k l0 a1).bind fun t287 => (impl_SplitText.l0 k a1 t287 (wrap64 ((t287.length : Int) - 1)))) = some r := h
 clear h
 replace H := Option.bind_eq_some_iff.mp H
 obtain ⟨t287, A30, H⟩ := H
 replace H : (impl_SplitText.l0 k a1 t287 (wrap64 ((t287.length : Int) - 1))) = some r := H
 have A3 := Aside0.mk A30
 clear A30
 have H' := Aside0.mk H
 clear H
 go_enter Tryd.func6, Tryd.ntmps6
 go_wp2_with (first | (go_at_call 10; (with_reducible refine (impl_SplitAt.calls k _ _ l0 a1 t287 _ ?side1 ?side2 A3.out).mono ?_); (case side1 => repeat (first | exact HR0.out | (with_reducible refine Kd.C_alloc ?_ _) | (with_reducible refine Kd.C_drewN ?_ _) | (with_reducible refine Kd.C_drew ?_))); (case side2 => exact HC0.out); rintro e w4 ⟨v288, rfl, ho0, hb⟩; have n0_ := Aside0.mk (Kd.R_lower ho0 (below_size (bl_))); have n1_ := Aside0.mk (below_step (bl_) hb); clear HB; have HO289 := n0_; have HB := n1_; clear n0_ n1_; (try clear hb); (try clear hb2); (try clear hk); (try clear hi); (try clear ho0); obtain ⟨Ao5, co5, eo5⟩ := Kd.R_slice HO289.out; subst eo5))
 repeat (go_quiet (first | (go_at_call 10; (with_reducible refine (impl_SplitAt.calls k _ _ l0 a1 t287 _ ?side1 ?side2 A3.out).mono ?_); (case side1 => repeat (first | exact HR0.out | (with_reducible refine Kd.C_alloc ?_ _) | (with_reducible refine Kd.C_drewN ?_ _) | (with_reducible refine Kd.C_drew ?_))); (case side2 => exact HC0.out); rintro e w4 ⟨v288, rfl, ho0, hb⟩; have n0_ := Aside0.mk (Kd.R_lower ho0 (below_size (bl_))); have n1_ := Aside0.mk (below_step (bl_) hb); clear HB; have HO289 := n0_; have HB := n1_; clear n0_ n1_; (try clear hb); (try clear hb2); (try clear hk); (try clear hi); (try clear ho0); obtain ⟨Ao5, co5, eo5⟩ := Kd.R_slice HO289.out; subst eo5)); try go_wp2_with (first | (go_at_call 10; (with_reducible refine (impl_SplitAt.calls k _ _ l0 a1 t287 _ ?side1 ?side2 A3.out).mono ?_); (case side1 => repeat (first | exact HR0.out | (with_reducible refine Kd.C_alloc ?_ _) | (with_reducible refine Kd.C_drewN ?_ _) | (with_reducible refine Kd.C_drew ?_))); (case side2 => exact HC0.out); rintro e w4 ⟨v288, rfl, ho0, hb⟩; have n0_ := Aside0.mk (Kd.R_lower ho0 (below_size (bl_))); have n1_ := Aside0.mk (below_step (bl_) hb); clear HB; have HO289 := n0_; have HB := n1_; clear n0_ n1_; (try clear hb); (try clear hb2); (try clear hk); (try clear hi); (try clear ho0); obtain ⟨Ao5, co5, eo5⟩ := Kd.R_slice HO289.out; subst eo5)))
 go_loopg [5, 7] k (fun kq v5 v7 w' => ∃ (x5_1 : ByteArray) (x7_1 : Int), v5 = .string x5_1 ∧ v7 = .int .i64 x7_1 ∧ Aside0 (impl_SplitText.l0 kq x5_1 t287 x7_1 = some r) ∧ Aside0 (kq ≤ k) ∧ Aside0 (Kd.R (Kd.int .i64) 3 w' w.heap.size (fun _ => True) (.slice Ao5 t287.length co5) t287) ∧ Aside0 (Below w.heap.size w w'))
 case atStart => exact ⟨(a1), (wrap64 ((t287.length : Int) - 1)), rf_, rf_, H', ⟨Nat.le_refl _⟩, ⟨by (with_reducible repeat (first | apply Kd.R_alloc | apply Kd.R_drewN | apply Kd.R_drew)); exact HO289.out⟩, ⟨bl_⟩⟩
 case round =>
  clear H'
  try clear p2
  obtain ⟨x5_1, x7_1, rfl, rfl, HA, HK1, HO_6, HB⟩ := hrel
  cases gk with
  | zero => exact absurd HA.out (by simp [impl_SplitText.l0])
  | succ k1 =>
   have H := HA.out
   clear HA
   simp only [impl_SplitText.l0] at H
   by_cases c6 : x7_1 ≥ 0
   · rw [if_pos c6] at H
     have c6b0 : decide (0 ≤ x7_1) = true := decide_eq_true c6
     clear c6
     by_cases c7 : 0 ≤ x7_1
     · rw [if_pos c7] at H
       have c7b0 : decide (0 ≤ x7_1) = true := decide_eq_true c7
       clear c7
       by_cases c8 : x7_1 < (t287.length : Int)
       · rw [if_pos c8] at H
         have c8b0 : decide (x7_1 < (t287.length : Int)) = true := decide_eq_true c8
         clear c8
         by_cases c9 : 0 ≤ (rd t287 x7_1)
         · rw [if_pos c9] at H
           have c9b0 := eq_true c9
           have c9b1 : decide (0 ≤ (rd t287 x7_1)) = true := decide_eq_true c9
           clear c9
           by_cases c10 : (rd t287 x7_1) ≤ (x5_1.size : Int)
           · rw [if_pos c10] at H
             have c10b0 := eq_true c10
             have c10b1 : decide ((rd t287 x7_1) ≤ (x5_1.size : Int)) = true := decide_eq_true c10
             clear c10
             by_cases c11 : ((rd t287 x7_1) : Int).toNat + 1 ≤ 9223372036854775807
             · rw [if_pos c11] at H
               have c11b0 := eq_true c11
               have c11b1 : decide (((rd t287 x7_1) : Int).toNat + 1 ≤ 9223372036854775807) = true := decide_eq_true c11
               try have c11b2 : (9223372036854775807 < ((rd t287 x7_1) : Int).toNat + 1) = False := eq_false (Nat.not_lt.2 c11)
               have c12b0 := eq_true (od_ : 0 ≤ (rd t287 x7_1))
               have c13b0 := eq_true (od_ : (rd t287 x7_1) ≤ (x5_1.size : Int))
               by_cases c14 : ((rd t287 x7_1) : Int).toNat + 1 + (x5_1.size - ((rd t287 x7_1) : Int).toNat) ≤ 9223372036854775807
               · rw [if_pos c14] at H
                 have c14b0 := eq_true c14
                 have c14b1 : decide (((rd t287 x7_1) : Int).toNat + 1 + (x5_1.size - ((rd t287 x7_1) : Int).toNat) ≤ 9223372036854775807) = true := decide_eq_true c14
                 try have c14b2 : (9223372036854775807 < ((rd t287 x7_1) : Int).toNat + 1 + (x5_1.size - ((rd t287 x7_1) : Int).toNat)) = False := eq_false (Nat.not_lt.2 c14)
                 have H' := Aside0.mk H
                 clear H
                 have p290 : 0 ≤ (x7_1 : Int) := od_
                 have q290 : x7_1 < (t287.length : Int) := od_
                 obtain ⟨ad290, e290, hx290_0⟩ := Kd.at_int (Kd.R_reads' HO_6.out).2.2 x7_1 p290 q290
                 cases e290
                 replace p290 := eq_true p290
                 replace q290 := eq_true q290
                 have p291 : 0 ≤ (x7_1 : Int) := od_
                 have q291 : x7_1 < (t287.length : Int) := od_
                 obtain ⟨ad291, e291, hx291_0⟩ := Kd.at_int (Kd.R_reads' HO_6.out).2.2 x7_1 p291 q291
                 obtain rfl : ad290 = ad291 := (by injection e291)
                 replace p291 := eq_true p291
                 replace q291 := eq_true q291
                 go_wp2
                 repeat (go_quiet (fail); try go_wp2)
                 go_roundg k1
                 case measure => have := HK1.out; omega
                 case rel => exact ⟨(((x5_1.extract 0 ((rd t287 x7_1) : Int).toNat) ++ (⟨#[45]⟩ : ByteArray)) ++ (x5_1.extract ((rd t287 x7_1) : Int).toNat x5_1.size)), (wrap64 (x7_1 - 1)), rf_, rf_, H', ⟨by have := HK1.out; omega⟩, ⟨by (with_reducible repeat (first | apply Kd.R_alloc | apply Kd.R_drewN | apply Kd.R_drew)); exact HO_6.out⟩, ⟨bl_⟩⟩
               · rw [if_neg c14] at H
                 exact absurd H (by simp)
             · rw [if_neg c11] at H
               exact absurd H (by simp)
           · rw [if_neg c10] at H
             exact absurd H (by simp)
         · rw [if_neg c9] at H
           exact absurd H (by simp)
       · rw [if_neg c8] at H
         exact absurd H (by simp)
     · rw [if_neg c7] at H
       exact absurd H (by simp)
   · rw [if_neg c6] at H
     have c6b0 : decide (0 ≤ x7_1) = false := decide_eq_false c6
     clear c6
     obtain rfl := Option.some.inj H
     go_wp2
     repeat (go_quiet (fail); try go_wp2)
     go_ret
     exact ⟨rfe_, bl_⟩

/-! ### spec_l1Letters: function 37 -/
def spec_l1Letters.l0 : Nat → ByteArray → Int → Int → Option (Bool)
 | 0, _, _, _ => none
 | k + 1, x0, x1, x5 => if x5 < (x0.size : Int) then (if 0 ≤ x5 then (if (bt x0 x5) < 97 then (some false) else (if (bt x0 x5) > 122 then (some false) else (spec_l1Letters.l0 k x0 x1 (wrap64 (x5 + 1))))) else (none)) else (some (decide ((x0.size : Int) ≤ x1)))
def spec_l1Letters.f (k : Nat) (a0 : ByteArray) (a1 : Int) : Option (Bool) := spec_l1Letters.l0 k a0 a1 0
theorem spec_l1Letters.mono_l : ∀ k, (∀ y0 y1 y2, LeO (spec_l1Letters.l0 k y0 y1 y2) (spec_l1Letters.l0 (k + 1) y0 y1 y2))
 | 0 => fun _ _ _ r h => by simp [spec_l1Letters.l0] at h
 | k + 1 => by
  have ih0 := spec_l1Letters.mono_l k
  · intro y0 y1 y2
    unfold spec_l1Letters.l0
    repeat' first
    | (with_reducible exact ih0 _ _ _)
    | (with_reducible exact LeO.refl _)
    | (with_reducible exact LeO.none _)
    | (with_reducible refine LeO.ite ?_ ?_)
    | (with_reducible refine LeO.bind ?_ (fun _ => ?_))
    | exact ih0 _ _ _
    | exact LeO.none _
    | refine LeO.ite ?_ ?_
    | refine LeO.bind ?_ (fun _ => ?_)
theorem spec_l1Letters.mono : ∀ a0 a1 k, LeO (spec_l1Letters.f k a0 a1) (spec_l1Letters.f (k + 1) a0 a1) := by
 intro a0 a1 k
 have ih0 := spec_l1Letters.mono_l k
 unfold spec_l1Letters.f
 repeat' first
  | (with_reducible exact ih0 _ _ _)
  | (with_reducible exact LeO.refl _)
  | (with_reducible exact LeO.none _)
  | (with_reducible refine LeO.ite ?_ ?_)
  | (with_reducible refine LeO.bind ?_ (fun _ => ?_))
  | exact ih0 _ _ _
  | exact LeO.none _
  | refine LeO.ite ?_ ?_
  | refine LeO.bind ?_ (fun _ => ?_)
set_option maxHeartbeats 8000000 in
set_option maxRecDepth 100000 in
theorem spec_l1Letters.calls (k : Nat) (a0 : ByteArray) (a1 : Int) (r : Bool) (w : World) (h : spec_l1Letters.f k a0 a1 = some r) :
 Calls Tryd.prog 37 #[.string a0, .int .i64 a1] w fun e w' => e = .returned (.bool r) ∧ Drawn0 w w' := by
 have H : (spec_l1Letters.l0 k a0 a1 0) = some r := h
 clear h
 have H' := Aside0.mk H
 clear H
 go_enter Tryd.func37, Tryd.ntmps37
 go_wp2
 go_loopg [5] k (fun kq v5 w' => ∃ (x5_1 : Int), v5 = .int .i64 x5_1 ∧ Aside0 (spec_l1Letters.l0 kq a0 a1 x5_1 = some r) ∧ Aside0 (kq ≤ k) ∧ Drawn0 w w')
 case atStart => exact ⟨(0), rf_, H', ⟨Nat.le_refl _⟩, by repeat (first | exact Drawn0.refl _ | apply Drawn0.step)⟩
 case round =>
  clear H'
  try clear p2
  obtain ⟨x5_1, rfl, HA, HK1, ⟨m1, rfl⟩⟩ := hrel
  cases gk with
  | zero => exact absurd HA.out (by simp [spec_l1Letters.l0])
  | succ k1 =>
   have H := HA.out
   clear HA
   simp only [spec_l1Letters.l0] at H
   by_cases c3 : x5_1 < (a0.size : Int)
   · rw [if_pos c3] at H
     have c3b0 : decide (x5_1 < (a0.size : Int)) = true := decide_eq_true c3
     clear c3
     by_cases c4 : 0 ≤ x5_1
     · rw [if_pos c4] at H
       have c4b0 : decide (0 ≤ x5_1) = true := decide_eq_true c4
       clear c4
       by_cases c6 : (bt a0 x5_1) < 97
       · rw [if_pos c6] at H
         have c6b0 : decide ((bt a0 x5_1) < 97) = true := decide_eq_true c6
         clear c6
         obtain rfl := Option.some.inj H
         have p5 : 0 ≤ (x5_1 : Int) := od_
         have q5 : x5_1 < (a0.size : Int) := od_
         have hx5 := bt_at a0 x5_1
         replace p5 := eq_true p5
         replace q5 := eq_true q5
         go_wp2
         go_ret
         exact ⟨rf_, by repeat (first | exact Drawn0.refl _ | apply Drawn0.step)⟩
       · rw [if_neg c6] at H
         have c6b0 : decide ((bt a0 x5_1) < 97) = false := decide_eq_false c6
         clear c6
         by_cases c8 : (bt a0 x5_1) > 122
         · rw [if_pos c8] at H
           have c8b0 : decide (122 < (bt a0 x5_1)) = true := decide_eq_true c8
           clear c8
           obtain rfl := Option.some.inj H
           have p5 : 0 ≤ (x5_1 : Int) := od_
           have q5 : x5_1 < (a0.size : Int) := od_
           have hx5 := bt_at a0 x5_1
           replace p5 := eq_true p5
           replace q5 := eq_true q5
           have p7 : 0 ≤ (x5_1 : Int) := od_
           have q7 : x5_1 < (a0.size : Int) := od_
           have hx7 := bt_at a0 x5_1
           replace p7 := eq_true p7
           replace q7 := eq_true q7
           go_wp2
           go_ret
           exact ⟨rf_, by repeat (first | exact Drawn0.refl _ | apply Drawn0.step)⟩
         · rw [if_neg c8] at H
           have c8b0 : decide (122 < (bt a0 x5_1)) = false := decide_eq_false c8
           clear c8
           have H' := Aside0.mk H
           clear H
           have p5 : 0 ≤ (x5_1 : Int) := od_
           have q5 : x5_1 < (a0.size : Int) := od_
           have hx5 := bt_at a0 x5_1
           replace p5 := eq_true p5
           replace q5 := eq_true q5
           have p7 : 0 ≤ (x5_1 : Int) := od_
           have q7 : x5_1 < (a0.size : Int) := od_
           have hx7 := bt_at a0 x5_1
           replace p7 := eq_true p7
           replace q7 := eq_true q7
           go_wp2
           go_roundg k1
           case measure => have := HK1.out; omega
           case rel => exact ⟨(wrap64 (x5_1 + 1)), rf_, H', ⟨by have := HK1.out; omega⟩, by repeat (first | exact Drawn0.refl _ | apply Drawn0.step)⟩
     · rw [if_neg c4] at H
       exact absurd H (by simp)
   · rw [if_neg c3] at H
     have c3b0 : decide (x5_1 < (a0.size : Int)) = false := decide_eq_false c3
     clear c3
     obtain rfl := Option.some.inj H
     go_wp2
     go_ret
     exact ⟨rf_, by repeat (first | exact Drawn0.refl _ | apply Drawn0.step)⟩

/-! ### spec_l1Word: function 18 -/
def spec_l1Word.f (k : Nat) (a0 : ByteArray) : Option (Bool) := if (a0.size : Int) > 0 then ((spec_l1Letters.f k a0 12).bind fun t292 => (some t292)) else (some false)
theorem spec_l1Word.mono : ∀ a0 k, LeO (spec_l1Word.f k a0) (spec_l1Word.f (k + 1) a0) := by
 intro a0 k
 unfold spec_l1Word.f
 repeat' first
  | (with_reducible exact spec_l1Letters.mono _ _ _)
  | (with_reducible exact LeO.refl _)
  | (with_reducible exact LeO.none _)
  | (with_reducible refine LeO.ite ?_ ?_)
  | (with_reducible refine LeO.bind ?_ (fun _ => ?_))
  | exact spec_l1Letters.mono _ _ _
  | exact LeO.none _
  | refine LeO.ite ?_ ?_
  | refine LeO.bind ?_ (fun _ => ?_)
set_option maxHeartbeats 8000000 in
set_option maxRecDepth 100000 in
theorem spec_l1Word.calls (k : Nat) (a0 : ByteArray) (r : Bool) (w : World) (h : spec_l1Word.f k a0 = some r) :
 Calls Tryd.prog 18 #[.string a0] w fun e w' => e = .returned (.bool r) ∧ Drawn0 w w' := by
 have H : (if (a0.size : Int) > 0 then ((spec_l1Letters.f k a0 12).bind fun t292 => (some t292)) else (some false)) = some r := h
 clear h
 by_cases c2 : (a0.size : Int) > 0
 · rw [if_pos c2] at H
   have c2b0 : decide (0 < (a0.size : Int)) = true := decide_eq_true c2
   have c2b1 : decide (0 < a0.size) = true := decide_eq_true (by omega)
   clear c2
   replace H := Option.bind_eq_some_iff.mp H
   obtain ⟨t292, A30, H⟩ := H
   replace H : (some t292) = some r := H
   have A3 := Aside0.mk A30
   clear A30
   obtain rfl := Option.some.inj H
   go_enter Tryd.func18, Tryd.ntmps18
   go_wp2_with (first | (go_at_call 37; (with_reducible refine (spec_l1Letters.calls k a0 12 t292 _ A3.out).mono ?_); rintro e w' ⟨rfl, ⟨nd, rfl⟩⟩))
   go_ret
   exact ⟨rf_, by repeat (first | exact Drawn0.refl _ | apply Drawn0.step)⟩
 · rw [if_neg c2] at H
   have c2b0 : decide (0 < (a0.size : Int)) = false := decide_eq_false c2
   have c2b1 : decide (0 < a0.size) = false := decide_eq_false (by omega)
   clear c2
   obtain rfl := Option.some.inj H
   go_enter Tryd.func18, Tryd.ntmps18
   go_wp2
   go_ret
   exact ⟨rf_, by repeat (first | exact Drawn0.refl _ | apply Drawn0.step)⟩

/-! ### spec_l9Patterns: function 30 -/
def spec_l9Patterns.l0 : Nat → List (S42) → Int → Option (Bool)
 | 0, _, _ => none
 | k + 1, x0, x3 => if x3 < (x0.length : Int) then (if 0 ≤ x3 then ((spec_PatternOk.f k ((rd_T42 x0 x3).f0) ((rd_T42 x0 x3).f1)).bind fun t294 => (if t294 = true then (spec_l9Patterns.l0 k x0 (wrap64 (x3 + 1))) else (some false))) else (none)) else (some (decide ((x0.length : Int) ≤ 20)))
def spec_l9Patterns.f (k : Nat) (l0 : List (S42)) : Option (Bool) := spec_l9Patterns.l0 k l0 0
theorem spec_l9Patterns.mono_l : ∀ k, (∀ y0 y1, LeO (spec_l9Patterns.l0 k y0 y1) (spec_l9Patterns.l0 (k + 1) y0 y1))
 | 0 => fun _ _ r h => by simp [spec_l9Patterns.l0] at h
 | k + 1 => by
  have ih0 := spec_l9Patterns.mono_l k
  · intro y0 y1
    unfold spec_l9Patterns.l0
    repeat' first
    | (with_reducible exact ih0 _ _)
    | (with_reducible exact spec_PatternOk.mono _ _ _)
    | (with_reducible exact LeO.refl _)
    | (with_reducible exact LeO.none _)
    | (with_reducible refine LeO.ite ?_ ?_)
    | (with_reducible refine LeO.bind ?_ (fun _ => ?_))
    | exact ih0 _ _
    | exact spec_PatternOk.mono _ _ _
    | exact LeO.none _
    | refine LeO.ite ?_ ?_
    | refine LeO.bind ?_ (fun _ => ?_)
theorem spec_l9Patterns.mono : ∀ a0 k, LeO (spec_l9Patterns.f k a0) (spec_l9Patterns.f (k + 1) a0) := by
 intro a0 k
 have ih0 := spec_l9Patterns.mono_l k
 unfold spec_l9Patterns.f
 repeat' first
  | (with_reducible exact ih0 _ _)
  | (with_reducible exact spec_PatternOk.mono _ _ _)
  | (with_reducible exact LeO.refl _)
  | (with_reducible exact LeO.none _)
  | (with_reducible refine LeO.ite ?_ ?_)
  | (with_reducible refine LeO.bind ?_ (fun _ => ?_))
  | exact ih0 _ _
  | exact spec_PatternOk.mono _ _ _
  | exact LeO.none _
  | refine LeO.ite ?_ ?_
  | refine LeO.bind ?_ (fun _ => ?_)
set_option maxHeartbeats 8000000 in
set_option maxRecDepth 100000 in
theorem spec_l9Patterns.calls (k : Nat) (A0 : Option Addr) (c0 : Nat) (l0 : List (S42)) (r : Bool) (w : World) (hr0 : Kd.C k42 w A0 l0.length l0) (hc0 : l0.length ≤ c0) (h : spec_l9Patterns.f k l0 = some r) :
 Calls Tryd.prog 30 #[.slice A0 l0.length c0] w fun e w' => e = .returned (.bool r) ∧ Below w.heap.size w w' := by
 have hu42 := Tryd.underlying42
 have HR0 := Aside0.mk hr0
 have HC0 := Aside0.mk hc0
 clear hr0 hc0
 have HB := Aside0.mk (Below.refl w.heap.size w)
 have H : (spec_l9Patterns.l0 k l0 0) = some r := h
 clear h
 have H' := Aside0.mk H
 clear H
 go_enter Tryd.func30, Tryd.ntmps30
 go_wp2
 go_loopg [3] k (fun kq v3 w' => ∃ (x3_1 : Int), v3 = .int .i64 x3_1 ∧ Aside0 (spec_l9Patterns.l0 kq l0 x3_1 = some r) ∧ Aside0 (kq ≤ k) ∧ Aside0 (Below w.heap.size w w'))
 case atStart => exact ⟨(0), rf_, H', ⟨Nat.le_refl _⟩, ⟨bl_⟩⟩
 case round =>
  clear H'
  obtain ⟨x3_1, rfl, HA, HK1, HB⟩ := hrel
  cases gk with
  | zero => exact absurd HA.out (by simp [spec_l9Patterns.l0])
  | succ k1 =>
   have H := HA.out
   clear HA
   simp only [spec_l9Patterns.l0] at H
   by_cases c2 : x3_1 < (l0.length : Int)
   · rw [if_pos c2] at H
     have c2b0 : decide (x3_1 < (l0.length : Int)) = true := decide_eq_true c2
     clear c2
     by_cases c3 : 0 ≤ x3_1
     · rw [if_pos c3] at H
       have c3b0 : decide (0 ≤ x3_1) = true := decide_eq_true c3
       clear c3
       replace H := Option.bind_eq_some_iff.mp H
       obtain ⟨t294, A40, H⟩ := H
       replace H : (if t294 = true then (spec_l9Patterns.l0 k1 l0 (wrap64 (x3_1 + 1))) else (some false)) = some r := H
       have A4 := Aside0.mk A40
       clear A40
       by_cases c5 : t294 = true
       · subst c5
         have H1 : (spec_l9Patterns.l0 k1 l0 (wrap64 (x3_1 + 1))) = some r := by rw [if_pos rfl] at H; exact H
         clear H
         have H := H1
         clear H1
         have H' := Aside0.mk H
         clear H
         have p293 : 0 ≤ (x3_1 : Int) := od_
         have q293 : x3_1 < (l0.length : Int) := od_
         obtain ⟨ad293, A293_1, c293_1, e293, hx293_0, hx293_1, hl293_1, hi293_1⟩ := at_T42 HR0.out x3_1 p293 q293
         cases e293
         replace hx293_0 := (HB.out.cell (World.block_lt_of_cell? w _ hx293_0)).trans hx293_0
         replace hx293_1 := (HB.out.cell (World.block_lt_of_cell? w _ hx293_1)).trans hx293_1
         have HR293_1 := Aside0.mk hi293_1
         have HC293_1 := Aside0.mk hl293_1
         clear hi293_1 hl293_1
         replace p293 := eq_true p293
         replace q293 := eq_true q293
         go_wp2_with (first | ((with_reducible refine gate_callee (f := 46) rfl ?_); refine goesL_ (some 14) rfl rfl Tryd.func46 (by kernel_rfl) rfl #[.agg #[.string ((rd_T42 l0 x3_1).f0), .slice A293_1 ((rd_T42 l0 x3_1).f1).length c293_1]] rfl (by (try simp only [List.map_toArray, List.map_cons, List.map_nil]); first | done | rfl | (simp only [List.length_drop, List.length_take]; rfl)) ?_; (with_reducible refine (spec_PatternOk.calls k1 ((rd_T42 l0 x3_1).f0) _ _ ((rd_T42 l0 x3_1).f1) true _ ?side1 ?side2 A4.out).mono ?_); (case side1 => repeat (first | exact (Kd.C_below HR293_1.out HB.out) | (with_reducible refine Kd.C_alloc ?_ _) | (with_reducible refine Kd.C_drewN ?_ _) | (with_reducible refine Kd.C_drew ?_))); (case side2 => exact HC293_1.out); rintro e w6 ⟨rfl, hb⟩; refine ⟨_, rfl, ?_⟩; have n0_ := Aside0.mk (below_step (bl_) hb); clear HB; have HB := n0_; clear n0_; (try clear hb); (try clear hb2); (try clear hk); (try clear hi)))
         go_roundg k1
         case measure => have := HK1.out; omega
         case rel => exact ⟨(wrap64 (x3_1 + 1)), rf_, H', ⟨by have := HK1.out; omega⟩, ⟨bl_⟩⟩
       · replace c5 := Bool.eq_false_iff.mpr c5
         subst c5
         have H1 : (some false) = some r := by rw [if_neg (show ¬ (false = true) by decide)] at H; exact H
         clear H
         have H := H1
         clear H1
         obtain rfl := Option.some.inj H
         have p293 : 0 ≤ (x3_1 : Int) := od_
         have q293 : x3_1 < (l0.length : Int) := od_
         obtain ⟨ad293, A293_1, c293_1, e293, hx293_0, hx293_1, hl293_1, hi293_1⟩ := at_T42 HR0.out x3_1 p293 q293
         cases e293
         replace hx293_0 := (HB.out.cell (World.block_lt_of_cell? w _ hx293_0)).trans hx293_0
         replace hx293_1 := (HB.out.cell (World.block_lt_of_cell? w _ hx293_1)).trans hx293_1
         have HR293_1 := Aside0.mk hi293_1
         have HC293_1 := Aside0.mk hl293_1
         clear hi293_1 hl293_1
         replace p293 := eq_true p293
         replace q293 := eq_true q293
         go_wp2_with (first | ((with_reducible refine gate_callee (f := 46) rfl ?_); refine goesL_ (some 14) rfl rfl Tryd.func46 (by kernel_rfl) rfl #[.agg #[.string ((rd_T42 l0 x3_1).f0), .slice A293_1 ((rd_T42 l0 x3_1).f1).length c293_1]] rfl (by (try simp only [List.map_toArray, List.map_cons, List.map_nil]); first | done | rfl | (simp only [List.length_drop, List.length_take]; rfl)) ?_; (with_reducible refine (spec_PatternOk.calls k1 ((rd_T42 l0 x3_1).f0) _ _ ((rd_T42 l0 x3_1).f1) false _ ?side1 ?side2 A4.out).mono ?_); (case side1 => repeat (first | exact (Kd.C_below HR293_1.out HB.out) | (with_reducible refine Kd.C_alloc ?_ _) | (with_reducible refine Kd.C_drewN ?_ _) | (with_reducible refine Kd.C_drew ?_))); (case side2 => exact HC293_1.out); rintro e w7 ⟨rfl, hb⟩; refine ⟨_, rfl, ?_⟩; have n0_ := Aside0.mk (below_step (bl_) hb); clear HB; have HB := n0_; clear n0_; (try clear hb); (try clear hb2); (try clear hk); (try clear hi)))
         go_ret
         exact ⟨rfe_, bl_⟩
     · rw [if_neg c3] at H
       exact absurd H (by simp)
   · rw [if_neg c2] at H
     have c2b0 : decide (x3_1 < (l0.length : Int)) = false := decide_eq_false c2
     clear c2
     obtain rfl := Option.some.inj H
     go_wp2
     go_ret
     exact ⟨rfe_, bl_⟩

end Go.Proofs.YtlmbmfnimpjgmaaDoor.P
