-- Written by a program of this session (wip/gen/gen.py) out of Lean's print of the loaded program; Lean checks it.
import Derived.Test.YtlmbmfnimpjgmaaDoorP0
import Derived.Test.YtlmbmfnimpjgmaaDoorSq2
import Derived.Test.YtlmbmfnimpjgmaaDoorP1
import Derived.Test.YtlmbmfnimpjgmaaDoorP4
namespace Go.Proofs.YtlmbmfnimpjgmaaDoor.P
open Go.RowKit Go.Proofs.YtlmbmfnimpjgmaaDoorW.PrintWords Go.Proofs.YtlmbmfnimpjgmaaDoorW.PrintLast Go.Proofs.YtlmbmfnimpjgmaaDoorW.PrintMore
attribute [local go_sem] max2_int min2_int max_two min_two max_three min_three max_four min_four IntKind.wrap_u8 IntKind.wrap_u32 w64_256 w64_u32
set_option maxHeartbeats 8000000
set_option maxRecDepth 100000
set_option linter.unusedVariables false
set_option linter.unusedSimpArgs false

/-! ### spec_DrawWrap: function 11 -/
mutual
def spec_DrawWrap.l0 : Nat → List ByteArray → Int → List Int → Int → Option ((List (S42)) × List ByteArray × Int)
 | 0, _, _, _, _ => none
 | k + 1, x6, x7, x246000, x246001 => if x7 > 0 then ((spec_l13Word.f k x246000 x246001).bind fun bt251 => (if x6.length < 8796093022208 then (spec_DrawWrap.l0 k (x6 ++ [bt251.1]) (wrap64 (x7 - 1)) x246000 bt251.2) else (none))) else ((spec_l1Rd_pick.f k x246000 x246001 16).bind fun bt256 => (if bt256.1 = 0 then ((spec_l13AnyWord.f k x246000 bt256.2).bind fun bt258 => (if x6.length < 8796093022208 then ((spec_l13Patterns.f k x246000 bt258.2).bind fun bt263 => ((spec_l1Rd_one.f k x246000 bt263.2 (([12, 13, 15, 20, 60, 11, 61] : List Int))).bind fun bt270 => (some (bt263.1, (x6 ++ [bt258.1]), bt270.1)))) else (none))) else (if bt256.1 = 1 then (spec_DrawWrap.l1 k x6 x246000 bt256.2) else ((spec_l13Patterns.f k x246000 bt256.2).bind fun bt286 => ((spec_l1Rd_one.f k x246000 bt286.2 (([12, 13, 15, 20, 60, 11, 61] : List Int))).bind fun bt293 => (some (bt286.1, x6, bt293.1)))))))
def spec_DrawWrap.l1 : Nat → List ByteArray → List Int → Int → Option ((List (S42)) × List ByteArray × Int)
 | 0, _, _, _ => none
 | k + 1, x6, x246000, x246001 => (spec_l1Rd_pick.f k x246000 x246001 2).bind fun bt272 => (if (x6.length : Int) < (wrap64 (40 + bt272.1)) then (if x6.length < 8796093022208 then (spec_DrawWrap.l1 k (x6 ++ [(⟨#[97]⟩ : ByteArray)]) x246000 bt272.2) else (none)) else ((spec_l13Patterns.f k x246000 bt272.2).bind fun bt277 => ((spec_l1Rd_one.f k x246000 bt277.2 (([12, 13, 15, 20, 60, 11, 61] : List Int))).bind fun bt284 => (some (bt277.1, x6, bt284.1)))))
end
def spec_DrawWrap.f (k : Nat) (l0 : List Int) : Option ((List (S42)) × List ByteArray × Int) := (spec_l1Open.f l0).bind fun bt243 => ((spec_l1Rd_pick.f k bt243.1 bt243.2 16).bind fun bt249 => (spec_DrawWrap.l0 k (([] : List ByteArray)) bt249.1 bt243.1 bt249.2))
theorem spec_DrawWrap.mono_l : ∀ k, (∀ y0 y1 y2 y3, LeO (spec_DrawWrap.l0 k y0 y1 y2 y3) (spec_DrawWrap.l0 (k + 1) y0 y1 y2 y3)) ∧ (∀ y0 y1 y2, LeO (spec_DrawWrap.l1 k y0 y1 y2) (spec_DrawWrap.l1 (k + 1) y0 y1 y2))
 | 0 => ⟨fun _ _ _ _ r h => by simp [spec_DrawWrap.l0] at h, fun _ _ _ r h => by simp [spec_DrawWrap.l1] at h⟩
 | k + 1 => by
  obtain ⟨ih0, ih1⟩ := spec_DrawWrap.mono_l k
  refine ⟨?_, ?_⟩
  · intro y0 y1 y2 y3
    unfold spec_DrawWrap.l0
    have m0 := @spec_l13AnyWord.mono
    have m1 := @spec_l13Patterns.mono
    have m2 := @spec_l13Word.mono
    have m3 := @spec_l1Rd_one.mono
    have m4 := @spec_l1Rd_pick.mono
    exact mn_
  · intro y0 y1 y2
    unfold spec_DrawWrap.l1
    have m0 := @spec_l13AnyWord.mono
    have m1 := @spec_l13Patterns.mono
    have m2 := @spec_l13Word.mono
    have m3 := @spec_l1Rd_one.mono
    have m4 := @spec_l1Rd_pick.mono
    exact mn_
theorem spec_DrawWrap.mono : ∀ a0 k, LeO (spec_DrawWrap.f k a0) (spec_DrawWrap.f (k + 1) a0) := by
 intro a0 k
 obtain ⟨ih0, ih1⟩ := spec_DrawWrap.mono_l k
 unfold spec_DrawWrap.f
 have m0 := @spec_l13AnyWord.mono
 have m1 := @spec_l13Patterns.mono
 have m2 := @spec_l13Word.mono
 have m3 := @spec_l1Rd_one.mono
 have m4 := @spec_l1Rd_pick.mono
 exact mn_
theorem spec_DrawWrap.calls (k : Nat) (A0 : Option Addr) (c0 : Nat) (l0 : List Int) (r1 : List (S42)) (r2 : List ByteArray) (r3 : Int) (w : World) (hr0 : Kd.C (Kd.int .u8) w A0 l0.length l0) (hc0 : l0.length ≤ c0) (h : spec_DrawWrap.f k l0 = some (r1, r2, r3)) :
 Calls Tryd.prog 11 #[.slice A0 l0.length c0] w fun e w' => ∃ v0_ v1_ : Value, e = .returned (.tuple #[v0_, v1_, .int .i64 r3]) ∧ Kd.S k42 42 w' w.heap.size (fun _ => True) v0_ r1 ∧ Kd.R Kd.string 9 w' w.heap.size (fun _ => True) v1_ r2 ∧ Below w.heap.size w w' := by
 have HR0 := Aside0.mk hr0
 have HC0 := Aside0.mk hc0
 clear hr0 hc0
 have HB := Aside0.mk (Below.refl w.heap.size w)
 unfold spec_DrawWrap.f at h; have H := h; clear h
 replace H := Option.bind_eq_some_iff.mp H
 obtain ⟨⟨t243, t244⟩, A20, H⟩ := H; try dsimp -simprocs only at H
 have A2 := Aside0.mk A20
 clear A20
 obtain ⟨y246, hy_⟩ : ∃ y_ : List ByteArray, y_ = (([] : List ByteArray)) := ⟨_, rfl⟩
 replace H : ((spec_l1Rd_pick.f k t243 t244 16).bind fun bt249 => (spec_DrawWrap.l0 k y246 bt249.1 t243 bt249.2)) = some (r1, r2, r3) := ry_
 have Ny246 := Aside0.mk hy_; clear hy_
 replace H := Option.bind_eq_some_iff.mp H
 obtain ⟨⟨t249, t250⟩, A30, H⟩ := H; try dsimp -simprocs only at H
 have A3 := Aside0.mk A30
 clear A30
 have H' := Aside0.mk H; clear H
 go_enter Tryd.func11, Tryd.ntmps11
 go_wp2_with (first | ((with_reducible refine gate_callee (f := 24) rfl ?_); refine gl_ 9 Tryd.func24 #[.slice A0 l0.length c0] ?_; (with_reducible refine (spec_l1Open.calls _ _ l0 t243 t244 w _ ?side1 ?side2 ?side3 A2.out).mono ?_); (case side1 => exact bs_); (case side2 => exact HR0.out); (case side3 => exact HC0.out); rintro e w4 ⟨g245, rfl, hi, hb, hb2⟩; refine ⟨_, rfl, ?_⟩; replace HB := Aside0.mk (hb); have HI245 := Aside0.mk (hi); (try clear hb); (try clear hb2); (try clear hk); (try clear hi)) | ((with_reducible refine gate_dst (N := 10) rfl ?_); refine rl_ Kd.string 9 10 ([] : List ByteArray) [] ?_; intro v247 w5 ho6 hb hg_ hnew_; clear hg_ hnew_; (first | rw [← Ny246.out] at ho6 | (simp only [Int.reduceToNat] at ho6; rw [← Ny246.out] at ho6)); have HO248 := Aside0.mk (Kd.R_lower ho6 (below_size bs_)); replace HB := Aside0.mk (below_step bs_ hb); replace HI245 := Aside0.mk (IsS58.below is58_ hb); clear hb ho6) | ((with_reducible refine gate_callee (f := 25) rfl ?_); refine gl_ 12 Tryd.func25 #[.pointer (some ⟨g245, 0, none⟩), .int .i64 16] ?_; (with_reducible refine (spec_l1Rd_pick.calls k g245 t243 t244 16 t249 t250 w _ ?side1 ?side2 A3.out).mono ?_); (case side1 => exact is58_); (case side2 => exact bs_); rintro e w7 ⟨rfl, hi, hb, hk⟩; refine ⟨_, rfl, ?_⟩; replace HO248 := Aside0.mk (kaR58_ (kR_ HO248) hk); replace HB := Aside0.mk (hb); replace HI245 := Aside0.mk (hi); (try clear hb); (try clear hb2); (try clear hk); (try clear hi)))
 go_loopg [6, 7] k (fun kq v6 v7 w' => ∃ (x6_1 : List ByteArray) (x7_1 : Int) (x246001_1 : Int), v7 = .int .i64 x7_1 ∧ Aside0 (spec_DrawWrap.l0 kq x6_1 x7_1 t243 x246001_1 = some (r1, r2, r3)) ∧ Aside0 (kq ≤ k) ∧ Aside0 (Kd.R Kd.string 9 w' w.heap.size (fun _ => True) v6 x6_1) ∧ Aside0 (IsS58 w w' g245 t243 x246001_1) ∧ Aside0 (Below w.heap.size w w'))
 case atStart => exact ⟨(y246), (t249), (t250), rf_, H', ⟨Nat.le_refl _⟩, ⟨kR_ HO248⟩, ⟨is58_⟩, ⟨bs_⟩⟩
 case round =>
  clear H'
  (try clear c1);(try clear c2);(try clear p2)
  obtain ⟨x6_1, x7_1, x246001_1, rfl, HA, HK1, HO_6, HI245, HB⟩ := hrel
  cases gk with
  | zero => exact absurd HA.out (by simp [spec_DrawWrap.l0])
  | succ k1 =>
   have H := HA.out
   clear HA
   simp only [spec_DrawWrap.l0] at H
   replace H := itcc_ H; rcases H with ⟨c8, H⟩ | ⟨c8, H⟩
   · have c8b0 : decide (0 < x7_1) = true := decide_eq_true c8
     clear c8
     replace H := Option.bind_eq_some_iff.mp H
     obtain ⟨⟨t251, t252⟩, A90, H⟩ := H; try dsimp -simprocs only at H
     have A9 := Aside0.mk A90
     clear A90
     replace H := inc_ H; obtain ⟨c10, H⟩ := H
     have LMc10 := Aside0.mk c10
     clear c10
     obtain ⟨y253, hy_⟩ : ∃ y_ : List ByteArray, y_ = (x6_1 ++ [t251]) := ⟨_, rfl⟩
     replace H : (spec_DrawWrap.l0 k1 y253 (wrap64 (x7_1 - 1)) t243 t252) = some (r1, r2, r3) := ry_
     have Ny253 := Aside0.mk hy_; clear hy_
     have H' := Aside0.mk H; clear H
     go_wp2_with (first | ((with_reducible refine gate_callee (f := 26) rfl ?_); refine gl_ 19 Tryd.func26 #[.pointer (some ⟨g245, 0, none⟩)] ?_; (with_reducible refine (spec_l13Word.calls k1 g245 t243 x246001_1 t251 t252 w _ ?side1 ?side2 A9.out).mono ?_); (case side1 => exact is58_); (case side2 => exact bs_); rintro e w11 ⟨rfl, hi, hb, hk⟩; refine ⟨_, rfl, ?_⟩; replace HO_6 := Aside0.mk (kaR58_ (kR_ HO_6) hk); replace HB := Aside0.mk (hb); replace HI245 := Aside0.mk (hi); (try clear hb); (try clear hb2); (try clear hk); (try clear hi)) | ((with_reducible refine gate_builtin (b := .append) (xs := #[.tmp 17, .tmp 20]) rfl ?_); at_builtin; refine Kd.R_append Kd.string (w0 := w) w.heap.size rfl (.tmp 17) (.tmp 20) 32 9 (.string ⟨#[]⟩) 16 rfl Tryd.underlying32 info9 rfl (by decide) (by omega) u6 x6_1 t251 [.string t251] (fun _ => True) (fun _ => False) rfl rfl ?aP (fun _ hk => hk.elim) ?aF ?aO ?aB ?aS ?aL ?_; (case aP => exact rfl); (case aB => exact bs_); (case aF => exact (fun _ _ => trivial)); (case aO => exact (kR_ HO_6)); (case aS => exact (below_size bs_)); (case aL => have := LMc10.out; omega); intro v254 w12 ho hb hg hat; rw [← Ny253.out] at ho; replace HI245 := Aside0.mk (IsS58.grown is58_ hg (IsS58.own_ne HI245.out HO_6.out (by decide))); replace HB := Aside0.mk (hb); have HO255 := Aside0.mk (ho); clear HO_6; clear ho hb hg hat))
     go_roundg k1
     case measure => have := HK1.out; omega
     case rel => exact ⟨(y253), (wrap64 (x7_1 - 1)), (t252), rf_, H', ⟨by have := HK1.out; omega⟩, ⟨kR_ HO255⟩, ⟨is58_⟩, ⟨bs_⟩⟩
   have c8b0 : decide (0 < x7_1) = false := decide_eq_false c8
   clear c8
   replace H := Option.bind_eq_some_iff.mp H
   obtain ⟨⟨t256, t257⟩, A130, H⟩ := H; try dsimp -simprocs only at H
   have A13 := Aside0.mk A130
   clear A130
   replace H := itcc_ H; rcases H with ⟨c14, H⟩ | ⟨c14, H⟩
   · have c14b0 : (t256 == 0) = true := beq_iff_eq.mpr c14
     have c14b1 : (t256 != 0) = false := bne_eq_false_iff_eq.mpr c14
     clear c14
     replace H := Option.bind_eq_some_iff.mp H
     obtain ⟨⟨t258, t259⟩, A150, H⟩ := H; try dsimp -simprocs only at H
     have A15 := Aside0.mk A150
     clear A150
     replace H := inc_ H; obtain ⟨c16, H⟩ := H
     have LMc16 := Aside0.mk c16
     clear c16
     obtain ⟨y260, hy_⟩ : ∃ y_ : List ByteArray, y_ = (x6_1 ++ [t258]) := ⟨_, rfl⟩
     replace H : ((spec_l13Patterns.f k1 t243 t259).bind fun bt263 => ((spec_l1Rd_one.f k1 t243 bt263.2 (([12, 13, 15, 20, 60, 11, 61] : List Int))).bind fun bt270 => (some (bt263.1, y260, bt270.1)))) = some (r1, r2, r3) := ry_
     have Ny260 := Aside0.mk hy_; clear hy_
     replace H := Option.bind_eq_some_iff.mp H
     obtain ⟨⟨t263, t266⟩, A170, H⟩ := H; try dsimp -simprocs only at H
     have A17 := Aside0.mk A170
     clear A170
     obtain ⟨y267, hy_⟩ : ∃ y_ : List Int, y_ = (([12, 13, 15, 20, 60, 11, 61] : List Int)) := ⟨_, rfl⟩
     replace H : ((spec_l1Rd_one.f k1 t243 t266 y267).bind fun bt270 => (some (t263, y260, bt270.1))) = some (r1, r2, r3) := ry_
     have Ny267 := Aside0.mk hy_; clear hy_
     replace H := Option.bind_eq_some_iff.mp H
     obtain ⟨⟨t270, t271⟩, A180, H⟩ := H; try dsimp -simprocs only at H
     have A18 := Aside0.mk A180
     clear A180
     simp only [Option.some.injEq, Prod.mk.injEq] at H
     obtain ⟨rfl, rfl, rfl⟩ := H
     go_wp2_with (first | ((with_reducible refine gate_callee (f := 25) rfl ?_); refine gl_ 23 Tryd.func25 #[.pointer (some ⟨g245, 0, none⟩), .int .i64 16] ?_; (with_reducible refine (spec_l1Rd_pick.calls k1 g245 t243 x246001_1 16 t256 t257 w _ ?side1 ?side2 A13.out).mono ?_); (case side1 => exact is58_); (case side2 => exact bs_); rintro e w19 ⟨rfl, hi, hb, hk⟩; refine ⟨_, rfl, ?_⟩; replace HO_6 := Aside0.mk (kaR58_ (kR_ HO_6) hk); replace HB := Aside0.mk (hb); replace HI245 := Aside0.mk (hi); (try clear hb); (try clear hb2); (try clear hk); (try clear hi)) | ((with_reducible refine gate_callee (f := 27) rfl ?_); refine gl_ 28 Tryd.func27 #[.pointer (some ⟨g245, 0, none⟩)] ?_; (with_reducible refine (spec_l13AnyWord.calls k1 g245 t243 t257 t258 t259 w _ ?side1 ?side2 A15.out).mono ?_); (case side1 => exact is58_); (case side2 => exact bs_); rintro e w20 ⟨rfl, hi, hb, hk⟩; refine ⟨_, rfl, ?_⟩; replace HO_6 := Aside0.mk (kaR58_ (kR_ HO_6) hk); replace HB := Aside0.mk (hb); replace HI245 := Aside0.mk (hi); (try clear hb); (try clear hb2); (try clear hk); (try clear hi)) | ((with_reducible refine gate_builtin (b := .append) (xs := #[.tmp 26, .tmp 29]) rfl ?_); at_builtin; refine Kd.R_append Kd.string (w0 := w) w.heap.size rfl (.tmp 26) (.tmp 29) 32 9 (.string ⟨#[]⟩) 16 rfl Tryd.underlying32 info9 rfl (by decide) (by omega) u6 x6_1 t258 [.string t258] (fun _ => True) (fun _ => False) rfl rfl ?aP (fun _ hk => hk.elim) ?aF ?aO ?aB ?aS ?aL ?_; (case aP => exact rfl); (case aB => exact bs_); (case aF => exact (fun _ _ => trivial)); (case aO => exact (kR_ HO_6)); (case aS => exact (below_size bs_)); (case aL => have := LMc16.out; omega); intro v261 w21 ho hb hg hat; rw [← Ny260.out] at ho; replace HI245 := Aside0.mk (IsS58.grown is58_ hg (IsS58.own_ne HI245.out HO_6.out (by decide))); replace HB := Aside0.mk (hb); have HO262 := Aside0.mk (ho); clear HO_6; clear ho hb hg hat) | ((with_reducible refine gate_callee (f := 28) rfl ?_); refine gl_ 43 Tryd.func28 #[.pointer (some ⟨g245, 0, none⟩)] ?_; (with_reducible refine (spec_l13Patterns.calls k1 g245 t243 t259 t263 t266 w _ ?side1 ?side2 A17.out).mono ?_); (case side1 => exact is58_); (case side2 => exact bs_); rintro e w22 ⟨v264, rfl, ho0, hi, hb, hk⟩; refine ⟨_, rfl, ?_⟩; replace HO262 := Aside0.mk (kaR58_ (kR_ HO262) hk); have HO265 := Aside0.mk (Kd.S_lower ho0 (below_size bs_)); replace HB := Aside0.mk (hb); replace HI245 := Aside0.mk (hi); (try clear hb); (try clear hb2); (try clear hk); (try clear hi); (try clear ho0)) | ((with_reducible refine gate_dst (N := 46) rfl ?_); refine rl_ (Kd.int .i64) 3 46 ([12, 13, 15, 20, 60, 11, 61] : List Int) [.int .i64 12, .int .i64 13, .int .i64 15, .int .i64 20, .int .i64 60, .int .i64 11, .int .i64 61] ?_; intro v268 w23 ho24 hb hg_ hnew_; clear hg_ hnew_; (first | rw [← Ny267.out] at ho24 | (simp only [Int.reduceToNat] at ho24; rw [← Ny267.out] at ho24)); replace HO262 := Aside0.mk (Kd.R_below (kR_ HO262) hb); replace HO265 := Aside0.mk (Kd.S_elder' (kS_ HO265) (Kd.R_base ho24) hb); have HO269 := Aside0.mk (Kd.R_lower ho24 (below_size bs_)); replace HB := Aside0.mk (below_step bs_ hb); replace HI245 := Aside0.mk (IsS58.below is58_ hb); clear hb ho24; obtain ⟨Ao25, co25, eo25⟩ := Kd.R_slice HO269.out; subst eo25) | ((with_reducible refine gate_callee (f := 29) rfl ?_); refine gl_ 47 Tryd.func29 #[.pointer (some ⟨g245, 0, none⟩), .slice Ao25 y267.length co25] ?_; (with_reducible refine (spec_l1Rd_one.calls k1 g245 t243 t266 _ _ y267 t270 t271 w _ ?side1 ?side2 ?side3 ?side4 ?side5 A18.out).mono ?_); (case side1 => exact is58_); (case side2 => exact bs_); (case side3 => exact cr_ HO269); (case side4 => exact (Kd.R_reads' HO269.out).2.1); (case side5 => exact far_slice (IsS58.own_ne HI245.out HO269.out (by decide))); rintro e w26 ⟨rfl, hi, hb, hk⟩; refine ⟨_, rfl, ?_⟩; replace HO262 := Aside0.mk (kaR58_ (kR_ HO262) hk); replace HO265 := Aside0.mk (kaS58_ (kS_ HO265) hk); replace HO269 := Aside0.mk (kaR58_ (kR_ HO269) hk); replace HB := Aside0.mk (hb); replace HI245 := Aside0.mk (hi); (try clear hb); (try clear hb2); (try clear hk); (try clear hi)))
     go_ret3
     exact ⟨_, _, rfe_, by (with_reducible repeat (first | apply Kd.S_alloc | apply Kd.S_drewN | apply Kd.S_drew)); exact Kd.S_mono HO265.out (fun _ hk => trivial), kR_ HO262, bs_⟩
   have c14b0 : (t256 == 0) = false := beq_eq_false_iff_ne.mpr c14
   have c14b1 : (t256 != 0) = true := bne_iff_ne.mpr c14
   replace H := iucc_ H; rcases H with ⟨c27, H⟩ | ⟨c27, H⟩
   · have c27b0 : (t256 == 1) = false := beq_eq_false_iff_ne.mpr c27
     have c27b1 : (t256 != 1) = true := bne_iff_ne.mpr c27
     replace H := Option.bind_eq_some_iff.mp H
     obtain ⟨⟨t286, t289⟩, A440, H⟩ := H; try dsimp -simprocs only at H
     have A44 := Aside0.mk A440
     clear A440
     obtain ⟨y290, hy_⟩ : ∃ y_ : List Int, y_ = (([12, 13, 15, 20, 60, 11, 61] : List Int)) := ⟨_, rfl⟩
     replace H : ((spec_l1Rd_one.f k1 t243 t289 y290).bind fun bt293 => (some (t286, x6_1, bt293.1))) = some (r1, r2, r3) := ry_
     have Ny290 := Aside0.mk hy_; clear hy_
     replace H := Option.bind_eq_some_iff.mp H
     obtain ⟨⟨t293, t294⟩, A450, H⟩ := H; try dsimp -simprocs only at H
     have A45 := Aside0.mk A450
     clear A450
     simp only [Option.some.injEq, Prod.mk.injEq] at H
     obtain ⟨rfl, rfl, rfl⟩ := H
     go_wp2_with (first | ((with_reducible refine gate_callee (f := 25) rfl ?_); refine gl_ 23 Tryd.func25 #[.pointer (some ⟨g245, 0, none⟩), .int .i64 16] ?_; (with_reducible refine (spec_l1Rd_pick.calls k1 g245 t243 x246001_1 16 t256 t257 w _ ?side1 ?side2 A13.out).mono ?_); (case side1 => exact is58_); (case side2 => exact bs_); rintro e w46 ⟨rfl, hi, hb, hk⟩; refine ⟨_, rfl, ?_⟩; replace HO_6 := Aside0.mk (kaR58_ (kR_ HO_6) hk); replace HB := Aside0.mk (hb); replace HI245 := Aside0.mk (hi); (try clear hb); (try clear hb2); (try clear hk); (try clear hi)) | ((with_reducible refine gate_callee (f := 28) rfl ?_); refine gl_ 43 Tryd.func28 #[.pointer (some ⟨g245, 0, none⟩)] ?_; (with_reducible refine (spec_l13Patterns.calls k1 g245 t243 t257 t286 t289 w _ ?side1 ?side2 A44.out).mono ?_); (case side1 => exact is58_); (case side2 => exact bs_); rintro e w47 ⟨v287, rfl, ho0, hi, hb, hk⟩; refine ⟨_, rfl, ?_⟩; replace HO_6 := Aside0.mk (kaR58_ (kR_ HO_6) hk); have HO288 := Aside0.mk (Kd.S_lower ho0 (below_size bs_)); replace HB := Aside0.mk (hb); replace HI245 := Aside0.mk (hi); (try clear hb); (try clear hb2); (try clear hk); (try clear hi); (try clear ho0)) | ((with_reducible refine gate_dst (N := 46) rfl ?_); refine rl_ (Kd.int .i64) 3 46 ([12, 13, 15, 20, 60, 11, 61] : List Int) [.int .i64 12, .int .i64 13, .int .i64 15, .int .i64 20, .int .i64 60, .int .i64 11, .int .i64 61] ?_; intro v291 w48 ho49 hb hg_ hnew_; clear hg_ hnew_; (first | rw [← Ny290.out] at ho49 | (simp only [Int.reduceToNat] at ho49; rw [← Ny290.out] at ho49)); replace HO_6 := Aside0.mk (Kd.R_below (kR_ HO_6) hb); replace HO288 := Aside0.mk (Kd.S_elder' (kS_ HO288) (Kd.R_base ho49) hb); have HO292 := Aside0.mk (Kd.R_lower ho49 (below_size bs_)); replace HB := Aside0.mk (below_step bs_ hb); replace HI245 := Aside0.mk (IsS58.below is58_ hb); clear hb ho49; obtain ⟨Ao50, co50, eo50⟩ := Kd.R_slice HO292.out; subst eo50) | ((with_reducible refine gate_callee (f := 29) rfl ?_); refine gl_ 47 Tryd.func29 #[.pointer (some ⟨g245, 0, none⟩), .slice Ao50 y290.length co50] ?_; (with_reducible refine (spec_l1Rd_one.calls k1 g245 t243 t289 _ _ y290 t293 t294 w _ ?side1 ?side2 ?side3 ?side4 ?side5 A45.out).mono ?_); (case side1 => exact is58_); (case side2 => exact bs_); (case side3 => exact cr_ HO292); (case side4 => exact (Kd.R_reads' HO292.out).2.1); (case side5 => exact far_slice (IsS58.own_ne HI245.out HO292.out (by decide))); rintro e w51 ⟨rfl, hi, hb, hk⟩; refine ⟨_, rfl, ?_⟩; replace HO_6 := Aside0.mk (kaR58_ (kR_ HO_6) hk); replace HO288 := Aside0.mk (kaS58_ (kS_ HO288) hk); replace HO292 := Aside0.mk (kaR58_ (kR_ HO292) hk); replace HB := Aside0.mk (hb); replace HI245 := Aside0.mk (hi); (try clear hb); (try clear hb2); (try clear hk); (try clear hi)))
     go_ret3
     exact ⟨_, _, rfe_, by (with_reducible repeat (first | apply Kd.S_alloc | apply Kd.S_drewN | apply Kd.S_drew)); exact Kd.S_mono HO288.out (fun _ hk => trivial), kR_ HO_6, bs_⟩
   have c27b0 : (t256 == 1) = true := beq_iff_eq.mpr c27
   have c27b1 : (t256 != 1) = false := bne_eq_false_iff_eq.mpr c27
   clear c27
   have H' := Aside0.mk H; clear H
   go_wp2_with (first | ((with_reducible refine gate_callee (f := 25) rfl ?_); refine gl_ 23 Tryd.func25 #[.pointer (some ⟨g245, 0, none⟩), .int .i64 16] ?_; (with_reducible refine (spec_l1Rd_pick.calls k1 g245 t243 x246001_1 16 t256 t257 w _ ?side1 ?side2 A13.out).mono ?_); (case side1 => exact is58_); (case side2 => exact bs_); rintro e w28 ⟨rfl, hi, hb, hk⟩; refine ⟨_, rfl, ?_⟩; replace HO_6 := Aside0.mk (kaR58_ (kR_ HO_6) hk); replace HB := Aside0.mk (hb); replace HI245 := Aside0.mk (hi); (try clear hb); (try clear hb2); (try clear hk); (try clear hi)))
   go_loopg [6] k1 (fun kq v6 w' => ∃ (x6_2 : List ByteArray) (x246001_2 : Int), Aside0 (spec_DrawWrap.l1 kq x6_2 t243 x246001_2 = some (r1, r2, r3)) ∧ Aside0 (kq ≤ k1) ∧ Aside0 (Kd.R Kd.string 9 w' w.heap.size (fun _ => True) v6 x6_2) ∧ Aside0 (IsS58 w w' g245 t243 x246001_2) ∧ Aside0 (Below w.heap.size w w'))
   case atStart => exact ⟨(x6_1), (t257), H', ⟨Nat.le_refl _⟩, ⟨kR_ HO_6⟩, ⟨is58_⟩, ⟨bs_⟩⟩
   case round =>
    clear H'
    (try clear c1);(try clear c2);(try clear p2);(try clear p6);(try clear c8);(try clear c8b0);(try clear c10);(try clear c11);(try clear c14);(try clear c14b0);(try clear c14b1);(try clear c16);(try clear c24);(try clear c25);(try clear c26);(try clear c27);(try clear c27b0);(try clear c27b1);(try clear c28);(try clear p2)
    obtain ⟨x6_2, x246001_2, HA, HK2, HO_6, HI245, HB⟩ := hrel
    cases gk with
    | zero => exact absurd HA.out (by simp [spec_DrawWrap.l1])
    | succ k2 =>
     have H := HA.out
     clear HA
     simp only [spec_DrawWrap.l1] at H
     replace H := Option.bind_eq_some_iff.mp H
     obtain ⟨⟨t272, t273⟩, A290, H⟩ := H; try dsimp -simprocs only at H
     have A29 := Aside0.mk A290
     clear A290
     replace H := itdd_ H; rcases H with ⟨c30b0, H⟩ | ⟨c30b0, H⟩
     · replace H := inc_ H; obtain ⟨c31, H⟩ := H
       have LMc31 := Aside0.mk c31
       clear c31
       obtain ⟨y274, hy_⟩ : ∃ y_ : List ByteArray, y_ = (x6_2 ++ [(⟨#[97]⟩ : ByteArray)]) := ⟨_, rfl⟩
       replace H : (spec_DrawWrap.l1 k2 y274 t243 t273) = some (r1, r2, r3) := ry_
       have Ny274 := Aside0.mk hy_; clear hy_
       have H' := Aside0.mk H; clear H
       obtain ⟨Ao32, co32, eo32⟩ := Kd.R_slice HO_6.out
       subst eo32
       go_wp2_with (first | ((with_reducible refine gate_callee (f := 25) rfl ?_); refine gl_ 36 Tryd.func25 #[.pointer (some ⟨g245, 0, none⟩), .int .i64 2] ?_; (with_reducible refine (spec_l1Rd_pick.calls k2 g245 t243 x246001_2 2 t272 t273 w _ ?side1 ?side2 A29.out).mono ?_); (case side1 => exact is58_); (case side2 => exact bs_); rintro e w33 ⟨rfl, hi, hb, hk⟩; refine ⟨_, rfl, ?_⟩; replace HO_6 := Aside0.mk (kaR58_ (kR_ HO_6) hk); replace HB := Aside0.mk (hb); replace HI245 := Aside0.mk (hi); (try clear hb); (try clear hb2); (try clear hk); (try clear hi)) | ((with_reducible refine gate_builtin (b := .append) (xs := #[.tmp 39, .tmp 40]) rfl ?_); at_builtin; refine Kd.R_append Kd.string (w0 := w) w.heap.size rfl (.tmp 39) (.tmp 40) 32 9 (.string ⟨#[]⟩) 16 rfl Tryd.underlying32 info9 rfl (by decide) (by omega) (.slice Ao32 x6_2.length co32) x6_2 (⟨#[97]⟩ : ByteArray) [.string (⟨#[97]⟩ : ByteArray)] (fun _ => True) (fun _ => False) rfl rfl ?aP (fun _ hk => hk.elim) ?aF ?aO ?aB ?aS ?aL ?_; (case aP => exact rfl); (case aB => exact bs_); (case aF => exact (fun _ _ => trivial)); (case aO => exact (kR_ HO_6)); (case aS => exact (below_size bs_)); (case aL => have := LMc31.out; omega); intro v275 w34 ho hb hg hat; rw [← Ny274.out] at ho; replace HI245 := Aside0.mk (IsS58.grown is58_ hg (IsS58.own_ne HI245.out HO_6.out (by decide))); replace HB := Aside0.mk (hb); have HO276 := Aside0.mk (ho); clear HO_6; clear ho hb hg hat))
       go_roundg k2
       case measure => have := HK1.out; have := HK2.out; omega
       case rel => exact ⟨(y274), (t273), H', ⟨by have := HK1.out; have := HK2.out; omega⟩, ⟨kR_ HO276⟩, ⟨is58_⟩, ⟨bs_⟩⟩
     replace H := Option.bind_eq_some_iff.mp H
     obtain ⟨⟨t277, t280⟩, A350, H⟩ := H; try dsimp -simprocs only at H
     have A35 := Aside0.mk A350
     clear A350
     obtain ⟨y281, hy_⟩ : ∃ y_ : List Int, y_ = (([12, 13, 15, 20, 60, 11, 61] : List Int)) := ⟨_, rfl⟩
     replace H : ((spec_l1Rd_one.f k2 t243 t280 y281).bind fun bt284 => (some (t277, x6_2, bt284.1))) = some (r1, r2, r3) := ry_
     have Ny281 := Aside0.mk hy_; clear hy_
     replace H := Option.bind_eq_some_iff.mp H
     obtain ⟨⟨t284, t285⟩, A360, H⟩ := H; try dsimp -simprocs only at H
     have A36 := Aside0.mk A360
     clear A360
     simp only [Option.some.injEq, Prod.mk.injEq] at H
     obtain ⟨rfl, rfl, rfl⟩ := H
     obtain ⟨Ao37, co37, eo37⟩ := Kd.R_slice HO_6.out
     subst eo37
     go_wp2_with (first | ((with_reducible refine gate_callee (f := 25) rfl ?_); refine gl_ 36 Tryd.func25 #[.pointer (some ⟨g245, 0, none⟩), .int .i64 2] ?_; (with_reducible refine (spec_l1Rd_pick.calls k2 g245 t243 x246001_2 2 t272 t273 w _ ?side1 ?side2 A29.out).mono ?_); (case side1 => exact is58_); (case side2 => exact bs_); rintro e w38 ⟨rfl, hi, hb, hk⟩; refine ⟨_, rfl, ?_⟩; replace HO_6 := Aside0.mk (kaR58_ (kR_ HO_6) hk); replace HB := Aside0.mk (hb); replace HI245 := Aside0.mk (hi); (try clear hb); (try clear hb2); (try clear hk); (try clear hi)) | ((with_reducible refine gate_callee (f := 28) rfl ?_); refine gl_ 43 Tryd.func28 #[.pointer (some ⟨g245, 0, none⟩)] ?_; (with_reducible refine (spec_l13Patterns.calls k2 g245 t243 t273 t277 t280 w _ ?side1 ?side2 A35.out).mono ?_); (case side1 => exact is58_); (case side2 => exact bs_); rintro e w39 ⟨v278, rfl, ho0, hi, hb, hk⟩; refine ⟨_, rfl, ?_⟩; replace HO_6 := Aside0.mk (kaR58_ (kR_ HO_6) hk); have HO279 := Aside0.mk (Kd.S_lower ho0 (below_size bs_)); replace HB := Aside0.mk (hb); replace HI245 := Aside0.mk (hi); (try clear hb); (try clear hb2); (try clear hk); (try clear hi); (try clear ho0)) | ((with_reducible refine gate_dst (N := 46) rfl ?_); refine rl_ (Kd.int .i64) 3 46 ([12, 13, 15, 20, 60, 11, 61] : List Int) [.int .i64 12, .int .i64 13, .int .i64 15, .int .i64 20, .int .i64 60, .int .i64 11, .int .i64 61] ?_; intro v282 w40 ho41 hb hg_ hnew_; clear hg_ hnew_; (first | rw [← Ny281.out] at ho41 | (simp only [Int.reduceToNat] at ho41; rw [← Ny281.out] at ho41)); replace HO_6 := Aside0.mk (Kd.R_below (kR_ HO_6) hb); replace HO279 := Aside0.mk (Kd.S_elder' (kS_ HO279) (Kd.R_base ho41) hb); have HO283 := Aside0.mk (Kd.R_lower ho41 (below_size bs_)); replace HB := Aside0.mk (below_step bs_ hb); replace HI245 := Aside0.mk (IsS58.below is58_ hb); clear hb ho41; obtain ⟨Ao42, co42, eo42⟩ := Kd.R_slice HO283.out; subst eo42) | ((with_reducible refine gate_callee (f := 29) rfl ?_); refine gl_ 47 Tryd.func29 #[.pointer (some ⟨g245, 0, none⟩), .slice Ao42 y281.length co42] ?_; (with_reducible refine (spec_l1Rd_one.calls k2 g245 t243 t280 _ _ y281 t284 t285 w _ ?side1 ?side2 ?side3 ?side4 ?side5 A36.out).mono ?_); (case side1 => exact is58_); (case side2 => exact bs_); (case side3 => exact cr_ HO283); (case side4 => exact (Kd.R_reads' HO283.out).2.1); (case side5 => exact far_slice (IsS58.own_ne HI245.out HO283.out (by decide))); rintro e w43 ⟨rfl, hi, hb, hk⟩; refine ⟨_, rfl, ?_⟩; replace HO_6 := Aside0.mk (kaR58_ (kR_ HO_6) hk); replace HO279 := Aside0.mk (kaS58_ (kS_ HO279) hk); replace HO283 := Aside0.mk (kaR58_ (kR_ HO283) hk); replace HB := Aside0.mk (hb); replace HI245 := Aside0.mk (hi); (try clear hb); (try clear hb2); (try clear hk); (try clear hi)))
     go_ret3
     exact ⟨_, _, rfe_, by (with_reducible repeat (first | apply Kd.S_alloc | apply Kd.S_drewN | apply Kd.S_drew)); exact Kd.S_mono HO279.out (fun _ hk => trivial), kR_ HO_6, bs_⟩

/-! ### impl_within: function 23 -/
def impl_within.f (a0 : Int) (a1 : Int) (a2 : Int) : Option (Bool) := if a0 ≥ a1 then (some (decide (a0 ≤ a2))) else (some false)
theorem impl_within.calls (a0 : Int) (a1 : Int) (a2 : Int) (r : Bool) (w : World) (h : impl_within.f a0 a1 a2 = some r) :
 Calls Tryd.prog 23 #[.int .i64 a0, .int .i64 a1, .int .i64 a2] w fun e w' => e = .returned (.bool r) ∧ Drawn0 w w' := by
 unfold impl_within.f at h; have H := h; clear h
 replace H := itcc_ H; rcases H with ⟨c4, H⟩ | ⟨c4, H⟩
 · have c4b0 : decide (a1 ≤ a0) = true := decide_eq_true c4
   clear c4
   obtain rfl := Option.some.inj H
   go_enter Tryd.func23, Tryd.ntmps23
   go_wp2
   go_ret
   exact ⟨rf_, dr_⟩
 have c4b0 : decide (a1 ≤ a0) = false := decide_eq_false c4
 clear c4
 obtain rfl := Option.some.inj H
 go_enter Tryd.func23, Tryd.ntmps23
 go_wp2
 go_ret
 exact ⟨rf_, dr_⟩

/-! ### impl_lower: function 40 -/
def impl_lower.l0 : Nat → ByteArray → Int → Int → Option (Bool)
 | 0, _, _, _ => none
 | k + 1, x0, x5, x6 => if x6 < x5 then (if 0 ≤ x6 then (if x6 < (x0.size : Int) then (if (bt x0 x6) < 97 then (some false) else (if (bt x0 x6) > 122 then (some false) else (impl_lower.l0 k x0 x5 (wrap64 (x6 + 1))))) else (none)) else (none)) else (some true)
def impl_lower.f (k : Nat) (a0 : ByteArray) : Option (Bool) := impl_lower.l0 k a0 (a0.size : Int) 0
theorem impl_lower.mono_l : ∀ k, (∀ y0 y1 y2, LeO (impl_lower.l0 k y0 y1 y2) (impl_lower.l0 (k + 1) y0 y1 y2))
 | 0 => fun _ _ _ r h => by simp [impl_lower.l0] at h
 | k + 1 => by
  have ih0 := impl_lower.mono_l k
  · intro y0 y1 y2
    unfold impl_lower.l0
    exact mn_
theorem impl_lower.mono : ∀ a0 k, LeO (impl_lower.f k a0) (impl_lower.f (k + 1) a0) := by
 intro a0 k
 have ih0 := impl_lower.mono_l k
 unfold impl_lower.f
 exact mn_
theorem impl_lower.calls (k : Nat) (a0 : ByteArray) (r : Bool) (w : World) (h : impl_lower.f k a0 = some r) :
 Calls Tryd.prog 40 #[.string a0] w fun e w' => e = .returned (.bool r) ∧ Drawn0 w w' := by
 unfold impl_lower.f at h; have H := h; clear h
 have H' := Aside0.mk H; clear H
 go_enter Tryd.func40, Tryd.ntmps40
 go_wp2
 go_loopg [6] k (fun kq v6 w' => ∃ (x6_1 : Int), v6 = .int .i64 x6_1 ∧ Aside0 (impl_lower.l0 kq a0 (a0.size : Int) x6_1 = some r) ∧ Aside0 (kq ≤ k) ∧ Drawn0 w w')
 case atStart => exact ⟨(0), rf_, H', ⟨Nat.le_refl _⟩, dr_⟩
 case round =>
  clear H'
  obtain ⟨x6_1, rfl, HA, HK1, ⟨m1, rfl⟩⟩ := hrel
  cases gk with
  | zero => exact absurd HA.out (by simp [impl_lower.l0])
  | succ k1 =>
   have H := HA.out
   clear HA
   simp only [impl_lower.l0] at H
   replace H := iudd_ H; rcases H with ⟨c2b0, H⟩ | ⟨c2b0, H⟩
   · obtain rfl := Option.some.inj H
     go_wp2
     go_ret
     exact ⟨rf_, dr_⟩
   replace H := ind_ H; obtain ⟨c3b0, H⟩ := H
   replace H := ind_ H; obtain ⟨c4b0, H⟩ := H
   replace H := itdd_ H; rcases H with ⟨c6b0, H⟩ | ⟨c6b0, H⟩
   · obtain rfl := Option.some.inj H
     have p5 : 0 ≤ (x6_1 : Int) := od_
     have q5 : x6_1 < (a0.size : Int) := od_
     have hx5 := bt_at a0 x6_1
     replace p5 := eq_true p5; replace q5 := eq_true q5
     go_wp2
     go_ret
     exact ⟨rf_, dr_⟩
   replace H := itcc_ H; rcases H with ⟨c8, H⟩ | ⟨c8, H⟩
   · have c8b0 : decide (122 < (bt a0 x6_1)) = true := decide_eq_true c8
     clear c8
     obtain rfl := Option.some.inj H
     have p5 : 0 ≤ (x6_1 : Int) := od_
     have q5 : x6_1 < (a0.size : Int) := od_
     have hx5 := bt_at a0 x6_1
     replace p5 := eq_true p5; replace q5 := eq_true q5
     have p7 : 0 ≤ (x6_1 : Int) := od_
     have q7 : x6_1 < (a0.size : Int) := od_
     have hx7 := bt_at a0 x6_1
     replace p7 := eq_true p7; replace q7 := eq_true q7
     go_wp2
     go_ret
     exact ⟨rf_, dr_⟩
   have c8b0 : decide (122 < (bt a0 x6_1)) = false := decide_eq_false c8
   clear c8
   have H' := Aside0.mk H; clear H
   have p5 : 0 ≤ (x6_1 : Int) := od_
   have q5 : x6_1 < (a0.size : Int) := od_
   have hx5 := bt_at a0 x6_1
   replace p5 := eq_true p5; replace q5 := eq_true q5
   have p7 : 0 ≤ (x6_1 : Int) := od_
   have q7 : x6_1 < (a0.size : Int) := od_
   have hx7 := bt_at a0 x6_1
   replace p7 := eq_true p7; replace q7 := eq_true q7
   go_wp2
   go_roundg k1
   case measure => have := HK1.out; omega
   case rel => exact ⟨(wrap64 (x6_1 + 1)), rf_, H', ⟨by have := HK1.out; omega⟩, dr_⟩

end Go.Proofs.YtlmbmfnimpjgmaaDoor.P
