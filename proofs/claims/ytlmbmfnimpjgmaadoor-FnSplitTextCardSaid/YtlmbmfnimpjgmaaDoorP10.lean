-- Written by a program of this session (wip/gen/gen.py) out of Lean's print of the loaded program; Lean checks it.
import Derived.Test.YtlmbmfnimpjgmaaDoorP0
import Derived.Test.YtlmbmfnimpjgmaaDoorSq
import Derived.Test.YtlmbmfnimpjgmaaDoorP4
import Derived.Test.YtlmbmfnimpjgmaaDoorP7
import Derived.Test.YtlmbmfnimpjgmaaDoorP8
import Derived.Test.YtlmbmfnimpjgmaaDoorP9
import Derived.Test.YtlmbmfnimpjgmaaDoorExtRep
import Derived.Test.YtlmbmfnimpjgmaaDoorTab
namespace Go.Proofs.YtlmbmfnimpjgmaaDoor.P
open Go.RowKit Go.Proofs.YtlmbmfnimpjgmaaDoorW.PrintWords Go.Proofs.YtlmbmfnimpjgmaaDoorW.PrintLast Go.Proofs.YtlmbmfnimpjgmaaDoorW.PrintMore
attribute [local go_sem] max2_int min2_int max_two min_two max_three min_three max_four min_four IntKind.wrap_u8 IntKind.wrap_u32 w64_256 w64_u32
set_option linter.unusedVariables false
set_option linter.unusedSimpArgs false

/-! ### spec_SplitText: function 7 -/
def spec_SplitText.l0 : Nat → ByteArray → List Int → ByteArray → Int → Int → Option (ByteArray)
 | 0, _, _, _, _, _ => none
 | k + 1, x1, x5, x6, x7, x8 => if x8 < (x5.length : Int) then (if 0 ≤ x8 then (if 0 ≤ x7 then (if x7 ≤ (rd x5 x8) then (if (rd x5 x8) ≤ (x1.size : Int) then (if x6.size + (((rd x5 x8) : Int).toNat - (x7 : Int).toNat) ≤ 9223372036854775807 then (if x6.size + (((rd x5 x8) : Int).toNat - (x7 : Int).toNat) + 1 ≤ 9223372036854775807 then (spec_SplitText.l0 k x1 x5 ((x6 ++ (x1.extract (x7 : Int).toNat ((rd x5 x8) : Int).toNat)) ++ (⟨#[45]⟩ : ByteArray)) (rd x5 x8) (wrap64 (x8 + 1))) else (none)) else (none)) else (none)) else (none)) else (none)) else (none)) else (if 0 ≤ x7 then (if x7 ≤ (x1.size : Int) then (if x6.size + (x1.size - (x7 : Int).toNat) ≤ 9223372036854775807 then (some (x6 ++ (x1.extract (x7 : Int).toNat x1.size))) else (none)) else (none)) else (none))
def spec_SplitText.f (k : Nat) (l0 : List (S42)) (a1 : ByteArray) : Option (ByteArray) := (spec_SplitAt.f k l0 a1).bind fun t327 => (spec_SplitText.l0 k a1 t327 (⟨#[]⟩ : ByteArray) 0 0)
theorem spec_SplitText.mono_l : ∀ k, (∀ y0 y1 y2 y3 y4, LeO (spec_SplitText.l0 k y0 y1 y2 y3 y4) (spec_SplitText.l0 (k + 1) y0 y1 y2 y3 y4))
 | 0 => fun _ _ _ _ _ r h => by simp [spec_SplitText.l0] at h
 | k + 1 => by
  have ih0 := spec_SplitText.mono_l k
  · intro y0 y1 y2 y3 y4
    unfold spec_SplitText.l0
    repeat' first
    | (with_reducible exact ih0 _ _ _ _ _)
    | (with_reducible exact spec_SplitAt.mono _ _ _)
    | (with_reducible exact LeO.refl _)
    | (with_reducible exact LeO.none _)
    | (with_reducible refine LeO.ite ?_ ?_)
    | (with_reducible refine LeO.bind ?_ (fun _ => ?_))
    | exact ih0 _ _ _ _ _
    | exact spec_SplitAt.mono _ _ _
    | exact LeO.none _
    | refine LeO.ite ?_ ?_
    | refine LeO.bind ?_ (fun _ => ?_)
theorem spec_SplitText.mono : ∀ a0 a1 k, LeO (spec_SplitText.f k a0 a1) (spec_SplitText.f (k + 1) a0 a1) := by
 intro a0 a1 k
 have ih0 := spec_SplitText.mono_l k
 unfold spec_SplitText.f
 repeat' first
  | (with_reducible exact ih0 _ _ _ _ _)
  | (with_reducible exact spec_SplitAt.mono _ _ _)
  | (with_reducible exact LeO.refl _)
  | (with_reducible exact LeO.none _)
  | (with_reducible refine LeO.ite ?_ ?_)
  | (with_reducible refine LeO.bind ?_ (fun _ => ?_))
  | exact ih0 _ _ _ _ _
  | exact spec_SplitAt.mono _ _ _
  | exact LeO.none _
  | refine LeO.ite ?_ ?_
  | refine LeO.bind ?_ (fun _ => ?_)
set_option maxHeartbeats 8000000 in
set_option maxRecDepth 100000 in
theorem spec_SplitText.calls (k : Nat) (A0 : Option Addr) (c0 : Nat) (l0 : List (S42)) (a1 : ByteArray) (r : ByteArray) (w : World) (hr0 : Kd.C k42 w A0 l0.length l0) (hc0 : l0.length ≤ c0) (h : spec_SplitText.f k l0 a1 = some r) :
 Calls Tryd.prog 7 #[.slice A0 l0.length c0, .string a1] w fun e w' => e = .returned (.string r) ∧ Below w.heap.size w w' := by
 have HR0 := Aside0.mk hr0
 have HC0 := Aside0.mk hc0
 clear hr0 hc0
 have HB := Aside0.mk (Below.refl w.heap.size w)
 have H : ((spec_SplitAt.f k l0 a1).bind fun t327 => (spec_SplitText.l0 k a1 t327 (⟨#[]⟩ : ByteArray) 0 0)) = some r := h
 clear h
 replace H := Option.bind_eq_some_iff.mp H
 obtain ⟨t327, A30, H⟩ := H
 replace H : (spec_SplitText.l0 k a1 t327 (⟨#[]⟩ : ByteArray) 0 0) = some r := H
 have A3 := Aside0.mk A30
 clear A30
 have H' := Aside0.mk H
 clear H
 go_enter Tryd.func7, Tryd.ntmps7
 go_wp2_with (first | ((with_reducible refine gate_callee (f := 17) rfl ?_); refine goesL_ (some 11) rfl rfl Tryd.func17 (by kernel_rfl) rfl #[.slice A0 l0.length c0, .string a1] rfl (by (try simp only [List.map_toArray, List.map_cons, List.map_nil]); first | done | rfl | (simp only [List.length_drop, List.length_take]; rfl)) ?_; (with_reducible refine (spec_SplitAt.calls k _ _ l0 a1 t327 _ ?side1 ?side2 A3.out).mono ?_); (case side1 => repeat (first | exact HR0.out | (with_reducible refine Kd.C_alloc ?_ _) | (with_reducible refine Kd.C_drewN ?_ _) | (with_reducible refine Kd.C_drew ?_))); (case side2 => exact HC0.out); rintro e w4 ⟨v328, rfl, ho0, hb⟩; refine ⟨_, rfl, ?_⟩; have n0_ := Aside0.mk (Kd.R_lower ho0 (below_size (bl_))); have n1_ := Aside0.mk (below_step (bl_) hb); clear HB; have HO329 := n0_; have HB := n1_; clear n0_ n1_; (try clear hb); (try clear hb2); (try clear hk); (try clear hi); (try clear ho0)))
 go_loopg [6, 7, 8] k (fun kq v6 v7 v8 w' => ∃ (x6_1 : ByteArray) (x7_1 : Int) (x8_1 : Int), v6 = .string x6_1 ∧ v7 = .int .i64 x7_1 ∧ v8 = .int .i64 x8_1 ∧ Aside0 (spec_SplitText.l0 kq a1 t327 x6_1 x7_1 x8_1 = some r) ∧ Aside0 (kq ≤ k) ∧ Aside0 (Kd.R (Kd.int .i64) 3 w' w.heap.size (fun _ => True) v328 t327) ∧ Aside0 (Below w.heap.size w w'))
 case atStart => exact ⟨((⟨#[]⟩ : ByteArray)), (0), (0), rf_, rf_, rf_, H', ⟨Nat.le_refl _⟩, ⟨by (with_reducible repeat (first | apply Kd.R_alloc | apply Kd.R_drewN | apply Kd.R_drew)); exact HO329.out⟩, ⟨bl_⟩⟩
 case round =>
  clear H'
  try clear c1
  try clear p2
  obtain ⟨x6_1, x7_1, x8_1, rfl, rfl, rfl, HA, HK1, HO_5, HB⟩ := hrel
  cases gk with
  | zero => exact absurd HA.out (by simp [spec_SplitText.l0])
  | succ k1 =>
   have H := HA.out
   clear HA
   simp only [spec_SplitText.l0] at H
   by_cases c5 : x8_1 < (t327.length : Int)
   · rw [if_pos c5] at H
     have c5b0 : decide (x8_1 < (t327.length : Int)) = true := decide_eq_true c5
     clear c5
     by_cases c6 : 0 ≤ x8_1
     · rw [if_pos c6] at H
       have c6b0 : decide (0 ≤ x8_1) = true := decide_eq_true c6
       clear c6
       by_cases c7 : 0 ≤ x7_1
       · rw [if_pos c7] at H
         have c7b0 := eq_true c7
         have c7b1 : decide (0 ≤ x7_1) = true := decide_eq_true c7
         clear c7
         by_cases c8 : x7_1 ≤ (rd t327 x8_1)
         · rw [if_pos c8] at H
           have c8b0 := eq_true c8
           have c8b1 : decide (x7_1 ≤ (rd t327 x8_1)) = true := decide_eq_true c8
           clear c8
           by_cases c9 : (rd t327 x8_1) ≤ (a1.size : Int)
           · rw [if_pos c9] at H
             have c9b0 := eq_true c9
             have c9b1 : decide ((rd t327 x8_1) ≤ (a1.size : Int)) = true := decide_eq_true c9
             clear c9
             by_cases c10 : x6_1.size + (((rd t327 x8_1) : Int).toNat - (x7_1 : Int).toNat) ≤ 9223372036854775807
             · rw [if_pos c10] at H
               have c10b0 := eq_true c10
               have c10b1 : decide (x6_1.size + (((rd t327 x8_1) : Int).toNat - (x7_1 : Int).toNat) ≤ 9223372036854775807) = true := decide_eq_true c10
               try have c10b2 : (9223372036854775807 < x6_1.size + (((rd t327 x8_1) : Int).toNat - (x7_1 : Int).toNat)) = False := eq_false (Nat.not_lt.2 c10)
               by_cases c11 : x6_1.size + (((rd t327 x8_1) : Int).toNat - (x7_1 : Int).toNat) + 1 ≤ 9223372036854775807
               · rw [if_pos c11] at H
                 have c11b0 := eq_true c11
                 have c11b1 : decide (x6_1.size + (((rd t327 x8_1) : Int).toNat - (x7_1 : Int).toNat) + 1 ≤ 9223372036854775807) = true := decide_eq_true c11
                 try have c11b2 : (9223372036854775807 < x6_1.size + (((rd t327 x8_1) : Int).toNat - (x7_1 : Int).toNat) + 1) = False := eq_false (Nat.not_lt.2 c11)
                 have H' := Aside0.mk H
                 clear H
                 obtain ⟨Ao12, co12, eo12⟩ := Kd.R_slice HO_5.out
                 subst eo12
                 have p330 : 0 ≤ (x8_1 : Int) := od_
                 have q330 : x8_1 < (t327.length : Int) := od_
                 obtain ⟨ad330, e330, hx330_0⟩ := Kd.at_int (Kd.R_reads' HO_5.out).2.2 x8_1 p330 q330
                 cases e330
                 replace p330 := eq_true p330
                 replace q330 := eq_true q330
                 have p331 : 0 ≤ (x8_1 : Int) := od_
                 have q331 : x8_1 < (t327.length : Int) := od_
                 obtain ⟨ad331, e331, hx331_0⟩ := Kd.at_int (Kd.R_reads' HO_5.out).2.2 x8_1 p331 q331
                 obtain rfl : ad330 = ad331 := (by injection e331)
                 replace p331 := eq_true p331
                 replace q331 := eq_true q331
                 go_wp2
                 go_roundg k1
                 case measure => have := HK1.out; omega
                 case rel => exact ⟨((x6_1 ++ (a1.extract (x7_1 : Int).toNat ((rd t327 x8_1) : Int).toNat)) ++ (⟨#[45]⟩ : ByteArray)), (rd t327 x8_1), (wrap64 (x8_1 + 1)), rf_, rf_, rf_, H', ⟨by have := HK1.out; omega⟩, ⟨by (with_reducible repeat (first | apply Kd.R_alloc | apply Kd.R_drewN | apply Kd.R_drew)); exact HO_5.out⟩, ⟨bl_⟩⟩
               · rw [if_neg c11] at H
                 exact absurd H (by simp)
             · rw [if_neg c10] at H
               exact absurd H (by simp)
           · rw [if_neg c9] at H
             exact absurd H (by simp)
         · rw [if_neg c8] at H
           exact absurd H (by simp)
       · rw [if_neg c7] at H
         exact absurd H (by simp)
     · rw [if_neg c6] at H
       exact absurd H (by simp)
   · rw [if_neg c5] at H
     have c5b0 : decide (x8_1 < (t327.length : Int)) = false := decide_eq_false c5
     clear c5
     by_cases c13 : 0 ≤ x7_1
     · rw [if_pos c13] at H
       have c13b0 := eq_true c13
       have c13b1 : decide (0 ≤ x7_1) = true := decide_eq_true c13
       clear c13
       by_cases c14 : x7_1 ≤ (a1.size : Int)
       · rw [if_pos c14] at H
         have c14b0 := eq_true c14
         have c14b1 : decide (x7_1 ≤ (a1.size : Int)) = true := decide_eq_true c14
         clear c14
         by_cases c15 : x6_1.size + (a1.size - (x7_1 : Int).toNat) ≤ 9223372036854775807
         · rw [if_pos c15] at H
           have c15b0 := eq_true c15
           have c15b1 : decide (x6_1.size + (a1.size - (x7_1 : Int).toNat) ≤ 9223372036854775807) = true := decide_eq_true c15
           try have c15b2 : (9223372036854775807 < x6_1.size + (a1.size - (x7_1 : Int).toNat)) = False := eq_false (Nat.not_lt.2 c15)
           obtain rfl := Option.some.inj H
           obtain ⟨Ao16, co16, eo16⟩ := Kd.R_slice HO_5.out
           subst eo16
           go_wp2
           go_ret
           exact ⟨rfe_, bl_⟩
         · rw [if_neg c15] at H
           exact absurd H (by simp)
       · rw [if_neg c14] at H
         exact absurd H (by simp)
     · rw [if_neg c13] at H
       exact absurd H (by simp)

/-! ### spec_WordOk: function 8 -/
def spec_WordOk.f (k : Nat) (a0 : ByteArray) : Option (Bool) := (spec_l1Word.f k a0).bind fun t332 => (some t332)
theorem spec_WordOk.mono : ∀ a0 k, LeO (spec_WordOk.f k a0) (spec_WordOk.f (k + 1) a0) := by
 intro a0 k
 unfold spec_WordOk.f
 repeat' first
  | (with_reducible exact spec_l1Word.mono _ _)
  | (with_reducible exact LeO.refl _)
  | (with_reducible exact LeO.none _)
  | (with_reducible refine LeO.ite ?_ ?_)
  | (with_reducible refine LeO.bind ?_ (fun _ => ?_))
  | exact spec_l1Word.mono _ _
  | exact LeO.none _
  | refine LeO.ite ?_ ?_
  | refine LeO.bind ?_ (fun _ => ?_)
set_option maxHeartbeats 8000000 in
set_option maxRecDepth 100000 in
theorem spec_WordOk.calls (k : Nat) (a0 : ByteArray) (r : Bool) (w : World) (h : spec_WordOk.f k a0 = some r) :
 Calls Tryd.prog 8 #[.string a0] w fun e w' => e = .returned (.bool r) ∧ Drawn0 w w' := by
 have H : ((spec_l1Word.f k a0).bind fun t332 => (some t332)) = some r := h
 clear h
 replace H := Option.bind_eq_some_iff.mp H
 obtain ⟨t332, A20, H⟩ := H
 replace H : (some t332) = some r := H
 have A2 := Aside0.mk A20
 clear A20
 obtain rfl := Option.some.inj H
 go_enter Tryd.func8, Tryd.ntmps8
 go_wp2_with (first | ((with_reducible refine gate_callee (f := 18) rfl ?_); refine goesL_ (some 4) rfl rfl Tryd.func18 (by kernel_rfl) rfl #[.string a0] rfl (by (try simp only [List.map_toArray, List.map_cons, List.map_nil]); first | done | rfl | (simp only [List.length_drop, List.length_take]; rfl)) ?_; (with_reducible refine (spec_l1Word.calls k a0 t332 _ A2.out).mono ?_); rintro e w' ⟨rfl, ⟨nd, rfl⟩⟩; refine ⟨_, rfl, ?_⟩))
 go_ret
 exact ⟨rf_, by repeat (first | exact Drawn0.refl _ | apply Drawn0.step)⟩

-- extern: function 19 (strings_ReplaceAll), see ExtRep
/-! ### impl_SplitBack: function 9 -/
def impl_SplitBack.f (a0 : ByteArray) : Option (ByteArray) := (strings_ReplaceAll.f a0 (⟨#[45]⟩ : ByteArray) (⟨#[]⟩ : ByteArray)).bind fun t333 => (some t333)
set_option maxHeartbeats 8000000 in
set_option maxRecDepth 100000 in
theorem impl_SplitBack.calls (a0 : ByteArray) (r : ByteArray) (w : World) (hT : Tab w) (h : impl_SplitBack.f a0 = some r) :
 Calls Tryd.prog 9 #[.string a0] w fun e w' => e = .returned (.string r) ∧ Below w.heap.size w w' := by
 have HTb := Aside0.mk hT
 clear hT
 have HB := Aside0.mk (Below.refl w.heap.size w)
 have H : ((strings_ReplaceAll.f a0 (⟨#[45]⟩ : ByteArray) (⟨#[]⟩ : ByteArray)).bind fun t333 => (some t333)) = some r := h
 clear h
 replace H := Option.bind_eq_some_iff.mp H
 obtain ⟨t333, A20, H⟩ := H
 replace H : (some t333) = some r := H
 have A2 := Aside0.mk A20
 clear A20
 obtain rfl := Option.some.inj H
 go_enter Tryd.func9, Tryd.ntmps9
 go_wp2_with (first | ((with_reducible refine gate_callee (f := 19) rfl ?_); refine goesL_ (some 4) rfl rfl Tryd.func19 (by kernel_rfl) rfl #[.string a0, .string (⟨#[45]⟩ : ByteArray), .string (⟨#[]⟩ : ByteArray)] rfl (by (try simp only [List.map_toArray, List.map_cons, List.map_nil]); first | done | rfl | (simp only [List.length_drop, List.length_take]; rfl)) ?_; (with_reducible refine (strings_ReplaceAll.calls a0 (⟨#[45]⟩ : ByteArray) (⟨#[]⟩ : ByteArray) t333 _ ?side1 A2.out).mono ?_); (case side1 => exact tab_below HTb.out (bl_)); rintro e w3 ⟨rfl, hb⟩; refine ⟨_, rfl, ?_⟩; have n0_ := Aside0.mk (below_step (bl_) hb); clear HB; have HB := n0_; clear n0_; (try clear hb); (try clear hb2); (try clear hk); (try clear hi)))
 go_ret
 exact ⟨rfe_, bl_⟩

/-! ### laws_FnSplitText: function 3 -/
def laws_FnSplitText.j0 : Nat → List (S42) → ByteArray → ByteArray → Bool → Option (Bool)
 | 0, _, _, _, _ => none
 | k + 1, x3, x4, x5, x26 => if x26 = true then ((spec_SplitText.f k x3 x4).bind fun t341 => (some (x5.toList == t341.toList))) else ((impl_SplitBack.f x5).bind fun t342 => (if t342.toList = x4.toList then ((impl_SplitAt.f k x3 x4).bind fun t343 => (some ((x5.size : Int) == (wrap64 ((x4.size : Int) + (t343.length : Int)))))) else (some false)))
def laws_FnSplitText.f (k : Nat) (l0 : List Int) : Option (Bool) := if (l0.length : Int) > 1048576 then (some true) else ((spec_DrawSplitText.f k l0).bind fun bt334 => ((impl_SplitText.f k bt334.1 bt334.2).bind fun t338 => ((spec_SplitText.f k bt334.1 bt334.2).bind fun t339 => (if t338.toList = t339.toList then ((spec_WordOk.f k bt334.2).bind fun t340 => (laws_FnSplitText.j0 k bt334.1 bt334.2 t338 (!t340))) else (laws_FnSplitText.j0 k bt334.1 bt334.2 t338 true)))))
theorem laws_FnSplitText.mono_l : ∀ k, (∀ y0 y1 y2 y3, LeO (laws_FnSplitText.j0 k y0 y1 y2 y3) (laws_FnSplitText.j0 (k + 1) y0 y1 y2 y3))
 | 0 => fun _ _ _ _ r h => by simp [laws_FnSplitText.j0] at h
 | k + 1 => by
  have ih0 := laws_FnSplitText.mono_l k
  · intro y0 y1 y2 y3
    unfold laws_FnSplitText.j0
    repeat' first
    | (with_reducible exact ih0 _ _ _ _)
    | (with_reducible exact impl_SplitAt.mono _ _ _)
    | (with_reducible exact impl_SplitText.mono _ _ _)
    | (with_reducible exact spec_DrawSplitText.mono _ _)
    | (with_reducible exact spec_SplitText.mono _ _ _)
    | (with_reducible exact spec_WordOk.mono _ _)
    | (with_reducible exact LeO.refl _)
    | (with_reducible exact LeO.none _)
    | (with_reducible refine LeO.ite ?_ ?_)
    | (with_reducible refine LeO.bind ?_ (fun _ => ?_))
    | exact ih0 _ _ _ _
    | exact impl_SplitAt.mono _ _ _
    | exact impl_SplitText.mono _ _ _
    | exact spec_DrawSplitText.mono _ _
    | exact spec_SplitText.mono _ _ _
    | exact spec_WordOk.mono _ _
    | exact LeO.none _
    | refine LeO.ite ?_ ?_
    | refine LeO.bind ?_ (fun _ => ?_)
theorem laws_FnSplitText.mono : ∀ a0 k, LeO (laws_FnSplitText.f k a0) (laws_FnSplitText.f (k + 1) a0) := by
 intro a0 k
 have ih0 := laws_FnSplitText.mono_l k
 unfold laws_FnSplitText.f
 repeat' first
  | (with_reducible exact ih0 _ _ _ _)
  | (with_reducible exact impl_SplitAt.mono _ _ _)
  | (with_reducible exact impl_SplitText.mono _ _ _)
  | (with_reducible exact spec_DrawSplitText.mono _ _)
  | (with_reducible exact spec_SplitText.mono _ _ _)
  | (with_reducible exact spec_WordOk.mono _ _)
  | (with_reducible exact LeO.refl _)
  | (with_reducible exact LeO.none _)
  | (with_reducible refine LeO.ite ?_ ?_)
  | (with_reducible refine LeO.bind ?_ (fun _ => ?_))
  | exact ih0 _ _ _ _
  | exact impl_SplitAt.mono _ _ _
  | exact impl_SplitText.mono _ _ _
  | exact spec_DrawSplitText.mono _ _
  | exact spec_SplitText.mono _ _ _
  | exact spec_WordOk.mono _ _
  | exact LeO.none _
  | refine LeO.ite ?_ ?_
  | refine LeO.bind ?_ (fun _ => ?_)
set_option maxHeartbeats 8000000 in
set_option maxRecDepth 100000 in
theorem laws_FnSplitText.calls (k : Nat) (A0 : Option Addr) (c0 : Nat) (l0 : List Int) (r : Bool) (w : World) (hr0 : Kd.C (Kd.int .u8) w A0 l0.length l0) (hc0 : l0.length ≤ c0) (hT : Tab w) (h : laws_FnSplitText.f k l0 = some r) :
 Calls Tryd.prog 3 #[.slice A0 l0.length c0] w fun e w' => e = .returned (.bool r) ∧ Below w.heap.size w w' := by
 have HR0 := Aside0.mk hr0
 have HC0 := Aside0.mk hc0
 clear hr0 hc0
 have HTb := Aside0.mk hT
 clear hT
 have HB := Aside0.mk (Below.refl w.heap.size w)
 have H : (if (l0.length : Int) > 1048576 then (some true) else ((spec_DrawSplitText.f k l0).bind fun bt334 => ((impl_SplitText.f k bt334.1 bt334.2).bind fun t338 => ((spec_SplitText.f k bt334.1 bt334.2).bind fun t339 => (if t338.toList = t339.toList then ((spec_WordOk.f k bt334.2).bind fun t340 => (laws_FnSplitText.j0 k bt334.1 bt334.2 t338 (!t340))) else (laws_FnSplitText.j0 k bt334.1 bt334.2 t338 true)))))) = some r := h
 clear h
 by_cases c2 : (l0.length : Int) > 1048576
 · rw [if_pos c2] at H
   have c2b0 : decide (1048576 < (l0.length : Int)) = true := decide_eq_true c2
   have c2b1 : decide (1048576 < l0.length) = true := decide_eq_true (by omega)
   clear c2
   obtain rfl := Option.some.inj H
   go_enter Tryd.func3, Tryd.ntmps3
   go_wp2
   go_ret
   exact ⟨rfe_, bl_⟩
 · rw [if_neg c2] at H
   have c2b0 : decide (1048576 < (l0.length : Int)) = false := decide_eq_false c2
   have c2b1 : decide (1048576 < l0.length) = false := decide_eq_false (by omega)
   clear c2
   replace H := Option.bind_eq_some_iff.mp H
   obtain ⟨⟨t334, t335⟩, A30, H⟩ := H
   replace H : ((impl_SplitText.f k t334 t335).bind fun t338 => ((spec_SplitText.f k t334 t335).bind fun t339 => (if t338.toList = t339.toList then ((spec_WordOk.f k t335).bind fun t340 => (laws_FnSplitText.j0 k t334 t335 t338 (!t340))) else (laws_FnSplitText.j0 k t334 t335 t338 true)))) = some r := H
   have A3 := Aside0.mk A30
   clear A30
   replace H := Option.bind_eq_some_iff.mp H
   obtain ⟨t338, A40, H⟩ := H
   replace H : ((spec_SplitText.f k t334 t335).bind fun t339 => (if t338.toList = t339.toList then ((spec_WordOk.f k t335).bind fun t340 => (laws_FnSplitText.j0 k t334 t335 t338 (!t340))) else (laws_FnSplitText.j0 k t334 t335 t338 true))) = some r := H
   have A4 := Aside0.mk A40
   clear A40
   have HC5 := Aside0.mk H
   clear H
   go_enter Tryd.func3, Tryd.ntmps3
   go_upto_region 5 with (first | ((with_reducible refine gate_callee (f := 5) rfl ?_); refine goesL_ (some 11) rfl rfl Tryd.func5 (by kernel_rfl) rfl #[.slice A0 l0.length c0] rfl (by (try simp only [List.map_toArray, List.map_cons, List.map_nil]); first | done | rfl | (simp only [List.length_drop, List.length_take]; rfl)) ?_; (with_reducible refine (spec_DrawSplitText.calls k _ _ l0 t334 t335 _ ?side1 ?side2 A3.out).mono ?_); (case side1 => repeat (first | exact HR0.out | (with_reducible refine Kd.C_alloc ?_ _) | (with_reducible refine Kd.C_drewN ?_ _) | (with_reducible refine Kd.C_drew ?_))); (case side2 => exact HC0.out); rintro e w6 ⟨v336, rfl, ho0, hb⟩; refine ⟨_, rfl, ?_⟩; have n0_ := Aside0.mk (Kd.S_lower ho0 (below_size (bl_))); have n1_ := Aside0.mk (below_step (bl_) hb); clear HB; have HO337 := n0_; have HB := n1_; clear n0_ n1_; (try clear hb); (try clear hb2); (try clear hk); (try clear hi); (try clear ho0); obtain ⟨Ao7, co7, eo7⟩ := Kd.S_slice HO337.out; subst eo7) | ((with_reducible refine gate_callee (f := 6) rfl ?_); refine goesL_ (some 16) rfl rfl Tryd.func6 (by kernel_rfl) rfl #[.slice Ao7 t334.length co7, .string t335] rfl (by (try simp only [List.map_toArray, List.map_cons, List.map_nil]); first | done | rfl | (simp only [List.length_drop, List.length_take]; rfl)) ?_; (with_reducible refine (impl_SplitText.calls k _ _ t334 t335 t338 _ ?side1 ?side2 A4.out).mono ?_); (case side1 => repeat (first | exact (Kd.S_reads' HO337.out).2.2 | (with_reducible refine Kd.C_alloc ?_ _) | (with_reducible refine Kd.C_drewN ?_ _) | (with_reducible refine Kd.C_drew ?_))); (case side2 => exact (Kd.S_reads' HO337.out).2.1); rintro e w8 ⟨rfl, hb⟩; refine ⟨_, rfl, ?_⟩; have n0_ := Aside0.mk (Kd.S_below (kS_ HO337) hb); have n1_ := Aside0.mk (below_step (bl_) hb); clear HO337; clear HB; have HO337 := n0_; have HB := n1_; clear n0_ n1_; (try clear hb); (try clear hb2); (try clear hk); (try clear hi)))
   (try simp only [Act.put, List.setIfInBounds_toArray, List.set_cons_zero, List.set_cons_succ])
   go_cut [26] (fun v26 wc => ∃ (kq : Nat) (x26_4 : Bool), v26 = .bool x26_4 ∧ Aside0 (laws_FnSplitText.j0 kq t334 t335 t338 x26_4 = some r) ∧ Aside0 (kq ≤ k) ∧ Aside0 (Kd.S k42 42 wc w.heap.size (fun _ => True) (.slice Ao7 t334.length co7) t334) ∧ Aside0 (Below w.heap.size w wc))
   case first =>
    have H := HC5.out
    clear HC5
    replace H := Option.bind_eq_some_iff.mp H
    obtain ⟨t339, A90, H⟩ := H
    replace H : (if t338.toList = t339.toList then ((spec_WordOk.f k t335).bind fun t340 => (laws_FnSplitText.j0 k t334 t335 t338 (!t340))) else (laws_FnSplitText.j0 k t334 t335 t338 true)) = some r := H
    have A9 := Aside0.mk A90
    clear A90
    by_cases c10 : t338.toList = t339.toList
    · rw [if_pos c10] at H
      have c10b0 : (t338.toList == t339.toList) = true := beq_iff_eq.mpr c10
      have c10b1 : (t338.toList != t339.toList) = false := bne_eq_false_iff_eq.mpr c10
      clear c10
      (first | rw [c10b0] | (simp only [i64_w, i32_w]; rw [c10b0]) | skip)
      replace H := Option.bind_eq_some_iff.mp H
      obtain ⟨t340, A110, H⟩ := H
      replace H : (laws_FnSplitText.j0 k t334 t335 t338 (!t340)) = some r := H
      have A11 := Aside0.mk A110
      clear A110
      have H' := Aside0.mk H
      clear H
      go_wp2_with (first | ((with_reducible refine gate_callee (f := 7) rfl ?_); refine goesL_ (some 20) rfl rfl Tryd.func7 (by kernel_rfl) rfl #[.slice Ao7 t334.length co7, .string t335] rfl (by (try simp only [List.map_toArray, List.map_cons, List.map_nil]); first | done | rfl | (simp only [List.length_drop, List.length_take]; rfl)) ?_; (with_reducible refine (spec_SplitText.calls k _ _ t334 t335 t339 _ ?side1 ?side2 A9.out).mono ?_); (case side1 => repeat (first | exact (Kd.S_reads' HO337.out).2.2 | (with_reducible refine Kd.C_alloc ?_ _) | (with_reducible refine Kd.C_drewN ?_ _) | (with_reducible refine Kd.C_drew ?_))); (case side2 => exact (Kd.S_reads' HO337.out).2.1); rintro e w12 ⟨rfl, hb⟩; refine ⟨_, rfl, ?_⟩; have n0_ := Aside0.mk (Kd.S_below (kS_ HO337) hb); have n1_ := Aside0.mk (below_step (bl_) hb); clear HO337; clear HB; have HO337 := n0_; have HB := n1_; clear n0_ n1_; (try clear hb); (try clear hb2); (try clear hk); (try clear hi)) | (go_at_call 8; (with_reducible refine (spec_WordOk.calls k t335 t340 _ A11.out).mono ?_); rintro e w' ⟨rfl, ⟨nd, rfl⟩⟩))
      go_meet
      case rel => exact ⟨_, (!t340), rf_, H', ⟨by first | omega | exact Nat.le_refl _⟩, ⟨by (with_reducible repeat (first | apply Kd.S_alloc | apply Kd.S_drewN | apply Kd.S_drew)); exact HO337.out⟩, ⟨bl_⟩⟩
    · rw [if_neg c10] at H
      have c10b0 : (t338.toList == t339.toList) = false := beq_eq_false_iff_ne.mpr c10
      have c10b1 : (t338.toList != t339.toList) = true := bne_iff_ne.mpr c10
      (first | rw [c10b0] | (simp only [i64_w, i32_w]; rw [c10b0]) | skip)
      have H' := Aside0.mk H
      clear H
      go_wp2_with (first | ((with_reducible refine gate_callee (f := 7) rfl ?_); refine goesL_ (some 20) rfl rfl Tryd.func7 (by kernel_rfl) rfl #[.slice Ao7 t334.length co7, .string t335] rfl (by (try simp only [List.map_toArray, List.map_cons, List.map_nil]); first | done | rfl | (simp only [List.length_drop, List.length_take]; rfl)) ?_; (with_reducible refine (spec_SplitText.calls k _ _ t334 t335 t339 _ ?side1 ?side2 A9.out).mono ?_); (case side1 => repeat (first | exact (Kd.S_reads' HO337.out).2.2 | (with_reducible refine Kd.C_alloc ?_ _) | (with_reducible refine Kd.C_drewN ?_ _) | (with_reducible refine Kd.C_drew ?_))); (case side2 => exact (Kd.S_reads' HO337.out).2.1); rintro e w13 ⟨rfl, hb⟩; refine ⟨_, rfl, ?_⟩; have n0_ := Aside0.mk (Kd.S_below (kS_ HO337) hb); have n1_ := Aside0.mk (below_step (bl_) hb); clear HO337; clear HB; have HO337 := n0_; have HB := n1_; clear n0_ n1_; (try clear hb); (try clear hb2); (try clear hk); (try clear hi)))
      go_meet
      case rel => exact ⟨_, (true), rf_, H', ⟨by first | omega | exact Nat.le_refl _⟩, ⟨by (with_reducible repeat (first | apply Kd.S_alloc | apply Kd.S_drewN | apply Kd.S_drew)); exact HO337.out⟩, ⟨bl_⟩⟩
   case rest =>
    clear HC5
    try clear c1
    try clear c2
    try clear c2b0
    try clear c2b1
    try clear p2
    try clear c3
    try clear c5
    try clear c6
    try clear c7
    try clear c10
    try clear c10b0
    try clear c10b1
    obtain ⟨kq, x26_4, rfl, HA, HJ4, HO_3, HB⟩ := hcut
    cases kq with
    | zero => exact absurd HA.out (by simp [laws_FnSplitText.j0])
    | succ kj4 =>
     have H := HA.out
     clear HA
     simp only [laws_FnSplitText.j0] at H
     by_cases c14 : x26_4 = true
     · subst c14
       have H1 : ((spec_SplitText.f kj4 t334 t335).bind fun t341 => (some (t338.toList == t341.toList))) = some r := by rw [if_pos rfl] at H; exact H
       clear H
       have H := H1
       clear H1
       replace H := Option.bind_eq_some_iff.mp H
       obtain ⟨t341, A150, H⟩ := H
       replace H : (some (t338.toList == t341.toList)) = some r := H
       have A15 := Aside0.mk A150
       clear A150
       obtain rfl := Option.some.inj H
       go_wp2_with (first | ((with_reducible refine gate_callee (f := 7) rfl ?_); refine goesL_ (some 30) rfl rfl Tryd.func7 (by kernel_rfl) rfl #[.slice Ao7 t334.length co7, .string t335] rfl (by (try simp only [List.map_toArray, List.map_cons, List.map_nil]); first | done | rfl | (simp only [List.length_drop, List.length_take]; rfl)) ?_; (with_reducible refine (spec_SplitText.calls kj4 _ _ t334 t335 t341 _ ?side1 ?side2 A15.out).mono ?_); (case side1 => repeat (first | exact (Kd.S_reads' HO_3.out).2.2 | (with_reducible refine Kd.C_alloc ?_ _) | (with_reducible refine Kd.C_drewN ?_ _) | (with_reducible refine Kd.C_drew ?_))); (case side2 => exact (Kd.S_reads' HO_3.out).2.1); rintro e w16 ⟨rfl, hb⟩; refine ⟨_, rfl, ?_⟩; have n0_ := Aside0.mk (Kd.S_below (kS_ HO_3) hb); have n1_ := Aside0.mk (below_step (bl_) hb); clear HO_3; clear HB; have HO_3 := n0_; have HB := n1_; clear n0_ n1_; (try clear hb); (try clear hb2); (try clear hk); (try clear hi)))
       go_ret
       exact ⟨rfe_, bl_⟩
     · replace c14 := Bool.eq_false_iff.mpr c14
       subst c14
       have H1 : ((impl_SplitBack.f t338).bind fun t342 => (if t342.toList = t335.toList then ((impl_SplitAt.f kj4 t334 t335).bind fun t343 => (some ((t338.size : Int) == (wrap64 ((t335.size : Int) + (t343.length : Int)))))) else (some false))) = some r := by rw [if_neg (show ¬ (false = true) by decide)] at H; exact H
       clear H
       have H := H1
       clear H1
       replace H := Option.bind_eq_some_iff.mp H
       obtain ⟨t342, A170, H⟩ := H
       replace H : (if t342.toList = t335.toList then ((impl_SplitAt.f kj4 t334 t335).bind fun t343 => (some ((t338.size : Int) == (wrap64 ((t335.size : Int) + (t343.length : Int)))))) else (some false)) = some r := H
       have A17 := Aside0.mk A170
       clear A170
       by_cases c18 : t342.toList = t335.toList
       · rw [if_pos c18] at H
         have c18b0 : (t342.toList == t335.toList) = true := beq_iff_eq.mpr c18
         have c18b1 : (t342.toList != t335.toList) = false := bne_eq_false_iff_eq.mpr c18
         clear c18
         replace H := Option.bind_eq_some_iff.mp H
         obtain ⟨t343, A190, H⟩ := H
         replace H : (some ((t338.size : Int) == (wrap64 ((t335.size : Int) + (t343.length : Int))))) = some r := H
         have A19 := Aside0.mk A190
         clear A190
         obtain rfl := Option.some.inj H
         go_wp2_with (first | ((with_reducible refine gate_callee (f := 9) rfl ?_); refine goesL_ (some 33) rfl rfl Tryd.func9 (by kernel_rfl) rfl #[.string t338] rfl (by (try simp only [List.map_toArray, List.map_cons, List.map_nil]); first | done | rfl | (simp only [List.length_drop, List.length_take]; rfl)) ?_; (with_reducible refine (impl_SplitBack.calls t338 t342 _ ?side1 A17.out).mono ?_); (case side1 => exact tab_below HTb.out (bl_)); rintro e w20 ⟨rfl, hb⟩; refine ⟨_, rfl, ?_⟩; have n0_ := Aside0.mk (Kd.S_below (kS_ HO_3) hb); have n1_ := Aside0.mk (below_step (bl_) hb); clear HO_3; clear HB; have HO_3 := n0_; have HB := n1_; clear n0_ n1_; (try clear hb); (try clear hb2); (try clear hk); (try clear hi)) | (go_at_call 10; (with_reducible refine (impl_SplitAt.calls kj4 _ _ t334 t335 t343 _ ?side1 ?side2 A19.out).mono ?_); (case side1 => repeat (first | exact (Kd.S_reads' HO_3.out).2.2 | (with_reducible refine Kd.C_alloc ?_ _) | (with_reducible refine Kd.C_drewN ?_ _) | (with_reducible refine Kd.C_drew ?_))); (case side2 => exact (Kd.S_reads' HO_3.out).2.1); rintro e w21 ⟨v344, rfl, ho0, hb⟩; have n0_ := Aside0.mk (Kd.S_elder' (kS_ HO_3) (Kd.R_base ho0) hb); have n1_ := Aside0.mk (Kd.R_lower ho0 (below_size (bl_))); have n2_ := Aside0.mk (below_step (bl_) hb); clear HO_3; clear HB; have HO_3 := n0_; have HO345 := n1_; have HB := n2_; clear n0_ n1_ n2_; (try clear hb); (try clear hb2); (try clear hk); (try clear hi); (try clear ho0); obtain ⟨Ao22, co22, eo22⟩ := Kd.R_slice HO345.out; subst eo22))
         go_ret
         exact ⟨rfe_, bl_⟩
       · rw [if_neg c18] at H
         have c18b0 : (t342.toList == t335.toList) = false := beq_eq_false_iff_ne.mpr c18
         have c18b1 : (t342.toList != t335.toList) = true := bne_iff_ne.mpr c18
         obtain rfl := Option.some.inj H
         go_wp2_with (first | ((with_reducible refine gate_callee (f := 9) rfl ?_); refine goesL_ (some 33) rfl rfl Tryd.func9 (by kernel_rfl) rfl #[.string t338] rfl (by (try simp only [List.map_toArray, List.map_cons, List.map_nil]); first | done | rfl | (simp only [List.length_drop, List.length_take]; rfl)) ?_; (with_reducible refine (impl_SplitBack.calls t338 t342 _ ?side1 A17.out).mono ?_); (case side1 => exact tab_below HTb.out (bl_)); rintro e w23 ⟨rfl, hb⟩; refine ⟨_, rfl, ?_⟩; have n0_ := Aside0.mk (Kd.S_below (kS_ HO_3) hb); have n1_ := Aside0.mk (below_step (bl_) hb); clear HO_3; clear HB; have HO_3 := n0_; have HB := n1_; clear n0_ n1_; (try clear hb); (try clear hb2); (try clear hk); (try clear hi)))
         go_ret
         exact ⟨rfe_, bl_⟩

end Go.Proofs.YtlmbmfnimpjgmaaDoor.P
