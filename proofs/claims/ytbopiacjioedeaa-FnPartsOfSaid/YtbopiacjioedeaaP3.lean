-- Written by a program of this session (wip/gen/gen.py) out of Lean's print of the loaded program; Lean checks it.
import Derived.Test.YtbopiacjioedeaaP0
import Derived.Test.YtbopiacjioedeaaSq2
import Derived.Test.YtbopiacjioedeaaP1
import Derived.Test.YtbopiacjioedeaaP2
namespace Go.Proofs.Ytbopiacjioedeaa.P
open Go.RowKit Go.Proofs.YtbopiacjioedeaaW.PrintWords Go.Proofs.YtbopiacjioedeaaW.PrintLast Go.Proofs.YtbopiacjioedeaaW.PrintMore
attribute [local go_sem] max2_int min2_int max_two min_two max_three min_three max_four min_four IntKind.wrap_u8 IntKind.wrap_u32 w64_256 w64_u32
set_option maxHeartbeats 8000000
set_option maxRecDepth 100000
set_option linter.unusedVariables false
set_option linter.unusedSimpArgs false

attribute [local go_sem high] eqA68
/-! ### spec_l13Affixes: function 62 -/
mutual
def spec_l13Affixes.l0 : Nat → List (S68) → Int → List Int → Int → Option ((List (S68)) × Int)
 | 0, _, _, _, _ => none
 | k + 1, x3, x4, x1000, x1001 => if x4 > 0 then ((spec_l13Affix.f k x1000 x1001).bind fun bt133 => (spec_l13Affixes.l1 k x3 x4 false 0 x1000 bt133.2.2.2.2.2 bt133.1 bt133.2.1 bt133.2.2.1 bt133.2.2.2.1 bt133.2.2.2.2.1)) else (some (x3, x1001))
def spec_l13Affixes.l1 : Nat → List (S68) → Int → Bool → Int → List Int → Int → ByteArray → Bool → ByteArray → ByteArray → ByteArray → Option ((List (S68)) × Int)
 | 0, _, _, _, _, _, _, _, _, _, _, _ => none
 | k + 1, x3, x4, x6, x7, x1000, x1001, x140000, x140001, x140002, x140003, x140004 => if x7 < (x3.length : Int) then (if x6 = true then (spec_l13Affixes.l1 k x3 x4 true (wrap64 (x7 + 1)) x1000 x1001 x140000 x140001 x140002 x140003 x140004) else (if 0 ≤ x7 then (spec_l13Affixes.l1 k x3 x4 ((((rd_T68 x3 x7).f0).toList) == x140000.toList && (((rd_T68 x3 x7).f1) == x140001 && ((((rd_T68 x3 x7).f2).toList) == x140002.toList && ((((rd_T68 x3 x7).f3).toList) == x140003.toList && ((((rd_T68 x3 x7).f4).toList) == x140004.toList))))) (wrap64 (x7 + 1)) x1000 x1001 x140000 x140001 x140002 x140003 x140004) else (none))) else (if x6 = true then (spec_l13Affixes.l0 k x3 (wrap64 (x4 - 1)) x1000 x1001) else (if x3.length < 1954687338268 then (spec_l13Affixes.l0 k (x3 ++ [(⟨x140000, x140001, x140002, x140003, x140004⟩ : S68)]) (wrap64 (x4 - 1)) x1000 x1001) else (none)))
end
def spec_l13Affixes.f (k : Nat) (s0_0 : List Int) (s0_1 : Int) : Option ((List (S68)) × Int) := (spec_l1Rd_pick.f k s0_0 s0_1 5).bind fun bt131 => (spec_l13Affixes.l0 k (([] : List (S68))) bt131.1 s0_0 bt131.2)
theorem spec_l13Affixes.mono_l : ∀ k, (∀ y0 y1 y2 y3, LeO (spec_l13Affixes.l0 k y0 y1 y2 y3) (spec_l13Affixes.l0 (k + 1) y0 y1 y2 y3)) ∧ (∀ y0 y1 y2 y3 y4 y5 y6 y7 y8 y9 y10, LeO (spec_l13Affixes.l1 k y0 y1 y2 y3 y4 y5 y6 y7 y8 y9 y10) (spec_l13Affixes.l1 (k + 1) y0 y1 y2 y3 y4 y5 y6 y7 y8 y9 y10))
 | 0 => ⟨fun _ _ _ _ r h => by simp [spec_l13Affixes.l0] at h, fun _ _ _ _ _ _ _ _ _ _ _ r h => by simp [spec_l13Affixes.l1] at h⟩
 | k + 1 => by
  obtain ⟨ih0, ih1⟩ := spec_l13Affixes.mono_l k
  refine ⟨?_, ?_⟩
  · intro y0 y1 y2 y3
    unfold spec_l13Affixes.l0
    have m0 := @spec_l13Affix.mono
    have m1 := @spec_l1Rd_pick.mono
    exact mn_
  · intro y0 y1 y2 y3 y4 y5 y6 y7 y8 y9 y10
    unfold spec_l13Affixes.l1
    have m0 := @spec_l13Affix.mono
    have m1 := @spec_l1Rd_pick.mono
    exact mn_
theorem spec_l13Affixes.mono : ∀ a0 a1 k, LeO (spec_l13Affixes.f k a0 a1) (spec_l13Affixes.f (k + 1) a0 a1) := by
 intro a0 a1 k
 obtain ⟨ih0, ih1⟩ := spec_l13Affixes.mono_l k
 unfold spec_l13Affixes.f
 have m0 := @spec_l13Affix.mono
 have m1 := @spec_l1Rd_pick.mono
 exact mn_
theorem spec_l13Affixes.calls (k : Nat) (g : Nat) (s0_0 : List Int) (s0_1 : Int) (r1 : List (S68)) (r2 : Int) (w0 w : World) (hI : IsS66 w0 w g s0_0 s0_1) (hB : Below w0.heap.size w0 w) (h : spec_l13Affixes.f k s0_0 s0_1 = some (r1, r2)) :
 Calls Try.prog 62 #[.pointer (some ⟨g, 0, none⟩)] w fun e w' => ∃ v0_ : Value, e = .returned (v0_) ∧ Kd.R k68 68 w' w.heap.size (fun _ => True) v0_ r1 ∧ IsS66 w0 w' g s0_0 r2 ∧ Below w0.heap.size w0 w' ∧ KeepBut w w' g none := by
 have hu68 := Try.underlying68
 have HI0 := Aside0.mk hI
 have HK := Aside0.mk (KeepBut.refl w g none)
 have HL := Aside0.mk hB.size
 clear hI
 have HW0 := Aside0.mk hB.size
 have HB := Aside0.mk hB
 clear hB
 unfold spec_l13Affixes.f at h; have H := h; clear h
 obtain ⟨y128, hy_⟩ : ∃ y_ : List (S68), y_ = (([] : List (S68))) := ⟨_, rfl⟩
 replace H : ((spec_l1Rd_pick.f k s0_0 s0_1 5).bind fun bt131 => (spec_l13Affixes.l0 k y128 bt131.1 s0_0 bt131.2)) = some (r1, r2) := ry_
 have Ny128 := Aside0.mk hy_; clear hy_
 replace H := Option.bind_eq_some_iff.mp H
 obtain ⟨⟨t131, t132⟩, A20, H⟩ := H; try dsimp only at H
 have A2 := Aside0.mk A20
 clear A20
 have H' := Aside0.mk H; clear H
 go_enter Try.func62, Try.ntmps62
 go_wp2_with (first | ((with_reducible refine gate_dst (N := 8) rfl ?_); refine rl_ k68 68 8 ([] : List (S68)) [] ?_; intro v129 w3 ho4 hb hg_ hnew_; clear hg_ hnew_; (first | rw [← Ny128.out] at ho4 | (simp only [Int.reduceToNat] at ho4; rw [← Ny128.out] at ho4)); have HO130 := Aside0.mk (Kd.R_lower ho4 ks_); replace HK := Aside0.mk (KeepBut.trans kp_ (KeepBut.of_below hb g none) (.inl rfl)); replace HB := Aside0.mk (below_step bs_ hb); replace HI0 := Aside0.mk (IsS66.below is66_ hb); clear hb ho4) | (go_at_call 20; (with_reducible refine (spec_l1Rd_pick.calls k g s0_0 s0_1 5 t131 t132 w0 _ ?side1 ?side2 A2.out).mono ?_); (case side1 => exact is66_); (case side2 => exact bs_); rintro e w5 ⟨rfl, hi, hb, hk⟩; replace HO130 := Aside0.mk (kaR66_ (kR_ HO130) hk); replace HK := Aside0.mk (KeepBut.trans kp_ hk (.inl rfl)); replace HB := Aside0.mk (hb); replace HI0 := Aside0.mk (hi); (try clear hb); (try clear hb2); (try clear hk); (try clear hi)))
 repeat (go_quiet (first | ((with_reducible refine gate_dst (N := 8) rfl ?_); refine rl_ k68 68 8 ([] : List (S68)) [] ?_; intro v129 w3 ho4 hb hg_ hnew_; clear hg_ hnew_; (first | rw [← Ny128.out] at ho4 | (simp only [Int.reduceToNat] at ho4; rw [← Ny128.out] at ho4)); have HO130 := Aside0.mk (Kd.R_lower ho4 ks_); replace HK := Aside0.mk (KeepBut.trans kp_ (KeepBut.of_below hb g none) (.inl rfl)); replace HB := Aside0.mk (below_step bs_ hb); replace HI0 := Aside0.mk (IsS66.below is66_ hb); clear hb ho4) | (go_at_call 20; (with_reducible refine (spec_l1Rd_pick.calls k g s0_0 s0_1 5 t131 t132 w0 _ ?side1 ?side2 A2.out).mono ?_); (case side1 => exact is66_); (case side2 => exact bs_); rintro e w5 ⟨rfl, hi, hb, hk⟩; replace HO130 := Aside0.mk (kaR66_ (kR_ HO130) hk); replace HK := Aside0.mk (KeepBut.trans kp_ hk (.inl rfl)); replace HB := Aside0.mk (hb); replace HI0 := Aside0.mk (hi); (try clear hb); (try clear hb2); (try clear hk); (try clear hi))); try go_wp2_with (first | ((with_reducible refine gate_dst (N := 8) rfl ?_); refine rl_ k68 68 8 ([] : List (S68)) [] ?_; intro v129 w3 ho4 hb hg_ hnew_; clear hg_ hnew_; (first | rw [← Ny128.out] at ho4 | (simp only [Int.reduceToNat] at ho4; rw [← Ny128.out] at ho4)); have HO130 := Aside0.mk (Kd.R_lower ho4 ks_); replace HK := Aside0.mk (KeepBut.trans kp_ (KeepBut.of_below hb g none) (.inl rfl)); replace HB := Aside0.mk (below_step bs_ hb); replace HI0 := Aside0.mk (IsS66.below is66_ hb); clear hb ho4) | (go_at_call 20; (with_reducible refine (spec_l1Rd_pick.calls k g s0_0 s0_1 5 t131 t132 w0 _ ?side1 ?side2 A2.out).mono ?_); (case side1 => exact is66_); (case side2 => exact bs_); rintro e w5 ⟨rfl, hi, hb, hk⟩; replace HO130 := Aside0.mk (kaR66_ (kR_ HO130) hk); replace HK := Aside0.mk (KeepBut.trans kp_ hk (.inl rfl)); replace HB := Aside0.mk (hb); replace HI0 := Aside0.mk (hi); (try clear hb); (try clear hb2); (try clear hk); (try clear hi))))
 go_loopg [3, 4] k (fun kq v3 v4 w' => ∃ (x3_1 : List (S68)) (x4_1 : Int) (x1001_1 : Int), v4 = .int .i64 x4_1 ∧ Aside0 (spec_l13Affixes.l0 kq x3_1 x4_1 s0_0 x1001_1 = some (r1, r2)) ∧ Aside0 (kq ≤ k) ∧ Aside0 (Kd.R k68 68 w' w.heap.size (fun _ => True) v3 x3_1) ∧ Aside0 (IsS66 w0 w' g s0_0 x1001_1) ∧ Aside0 (KeepBut w w' g none) ∧ Aside0 (Below w0.heap.size w0 w'))
 case atStart => exact ⟨(y128), (t131), (t132), rf_, H', ⟨Nat.le_refl _⟩, ⟨kR_ HO130⟩, ⟨is66_⟩, ⟨kp_⟩, ⟨bs_⟩⟩
 case round =>
  clear H'
  try clear p2
  obtain ⟨x3_1, x4_1, x1001_1, rfl, HA, HK1, HO_3, HI0, HK, HB⟩ := hrel
  cases gk with
  | zero => exact absurd HA.out (by simp [spec_l13Affixes.l0])
  | succ k1 =>
   have H := HA.out
   clear HA
   simp only [spec_l13Affixes.l0] at H
   replace H := iucc_ H; rcases H with ⟨c6, H⟩ | ⟨c6, H⟩
   · have c6b0 : decide (0 < x4_1) = false := decide_eq_false c6
     clear c6
     simp only [Option.some.injEq, Prod.mk.injEq] at H
     obtain ⟨rfl, rfl⟩ := H
     go_wp2
     repeat (go_quiet (fail); try go_wp2)
     go_ret
     exact ⟨_, rfe_, kR_ HO_3, is66_, bs_, kp_⟩
   have c6b0 : decide (0 < x4_1) = true := decide_eq_true c6
   clear c6
   replace H := Option.bind_eq_some_iff.mp H
   obtain ⟨⟨t133, t134, t135, t136, t137, t138⟩, A70, H⟩ := H; try dsimp only at H
   have A7 := Aside0.mk A70
   clear A70
   have H' := Aside0.mk H; clear H
   go_wp2_with (first | (go_at_call 65; (with_reducible refine (spec_l13Affix.calls k1 g s0_0 x1001_1 t133 t134 t135 t136 t137 t138 w0 _ ?side1 ?side2 A7.out).mono ?_); (case side1 => exact is66_); (case side2 => exact bs_); rintro e w8 ⟨rfl, hi, hb, hk⟩; replace HO_3 := Aside0.mk (kaR66_ (kR_ HO_3) hk); replace HK := Aside0.mk (KeepBut.trans kp_ hk (.inl rfl)); replace HB := Aside0.mk (hb); replace HI0 := Aside0.mk (hi); (try clear hb); (try clear hb2); (try clear hk); (try clear hi)) | ((with_reducible refine gate_dst (N := 5) rfl ?_); refine be_ 5 68 #[.string (⟨#[]⟩ : ByteArray), .bool false, .string (⟨#[]⟩ : ByteArray), .string (⟨#[]⟩ : ByteArray), .string (⟨#[]⟩ : ByteArray)] ?_; intro gb139 hg w9 hbox hb; replace HO_3 := Aside0.mk (Kd.R_below (Kd.R_elderB (kR_ HO_3) gb139 (Nat.le_of_eq hg.symm)) hb); replace HB := Aside0.mk (below_step bs_ hb); have BK139 := Aside0.mk (hbox); have GW139 := Aside0.mk ((gk_ hg : w.heap.size ≤ gb139)); have GE139 := Aside0.mk ((Nat.le_trans HW0.out (gk_ hg : w.heap.size ≤ gb139) : w0.heap.size ≤ gb139)); replace HK := Aside0.mk (KeepBut.trans kp_ (KeepBut.of_below hb g none) (.inl rfl)); have NB0_139 := Aside0.mk ((by rw [hg]; exact Nat.ne_of_lt (IsS66.lt (show IsS66 w0 _ g s0_0 t138 from is66_)) : g ≠ gb139)); have NB139_0 := Aside0.mk ((by rw [hg]; exact Nat.ne_of_gt (IsS66.lt (show IsS66 w0 _ g s0_0 t138 from is66_)) : gb139 ≠ g)); replace HI0 := Aside0.mk (IsS66.below is66_ hb); clear hb hbox hg; have hnb10 := NB139_0.out; have hnc10 := NB0_139.out; have hcz11_0 := bc0_ BK139; have hcz11_1 := bc1_ BK139; have hcz11_2 := bc2_ BK139; have hcz11_3 := bc3_ BK139; have hcz11_4 := bc4_ BK139; have hfz11_0 := blk_frozen BK139.out 0; have hfz11_1 := blk_frozen BK139.out 1; have hfz11_2 := blk_frozen BK139.out 2; have hfz11_3 := blk_frozen BK139.out 3; have hfz11_4 := blk_frozen BK139.out 4))
   repeat (go_quiet (first | (go_at_call 65; (with_reducible refine (spec_l13Affix.calls k1 g s0_0 x1001_1 t133 t134 t135 t136 t137 t138 w0 _ ?side1 ?side2 A7.out).mono ?_); (case side1 => exact is66_); (case side2 => exact bs_); rintro e w8 ⟨rfl, hi, hb, hk⟩; replace HO_3 := Aside0.mk (kaR66_ (kR_ HO_3) hk); replace HK := Aside0.mk (KeepBut.trans kp_ hk (.inl rfl)); replace HB := Aside0.mk (hb); replace HI0 := Aside0.mk (hi); (try clear hb); (try clear hb2); (try clear hk); (try clear hi)) | ((with_reducible refine gate_dst (N := 5) rfl ?_); refine be_ 5 68 #[.string (⟨#[]⟩ : ByteArray), .bool false, .string (⟨#[]⟩ : ByteArray), .string (⟨#[]⟩ : ByteArray), .string (⟨#[]⟩ : ByteArray)] ?_; intro gb139 hg w9 hbox hb; replace HO_3 := Aside0.mk (Kd.R_below (Kd.R_elderB (kR_ HO_3) gb139 (Nat.le_of_eq hg.symm)) hb); replace HB := Aside0.mk (below_step bs_ hb); have BK139 := Aside0.mk (hbox); have GW139 := Aside0.mk ((gk_ hg : w.heap.size ≤ gb139)); have GE139 := Aside0.mk ((Nat.le_trans HW0.out (gk_ hg : w.heap.size ≤ gb139) : w0.heap.size ≤ gb139)); replace HK := Aside0.mk (KeepBut.trans kp_ (KeepBut.of_below hb g none) (.inl rfl)); have NB0_139 := Aside0.mk ((by rw [hg]; exact Nat.ne_of_lt (IsS66.lt (show IsS66 w0 _ g s0_0 t138 from is66_)) : g ≠ gb139)); have NB139_0 := Aside0.mk ((by rw [hg]; exact Nat.ne_of_gt (IsS66.lt (show IsS66 w0 _ g s0_0 t138 from is66_)) : gb139 ≠ g)); replace HI0 := Aside0.mk (IsS66.below is66_ hb); clear hb hbox hg; have hnb10 := NB139_0.out; have hnc10 := NB0_139.out; have hcz11_0 := bc0_ BK139; have hcz11_1 := bc1_ BK139; have hcz11_2 := bc2_ BK139; have hcz11_3 := bc3_ BK139; have hcz11_4 := bc4_ BK139; have hfz11_0 := blk_frozen BK139.out 0; have hfz11_1 := blk_frozen BK139.out 1; have hfz11_2 := blk_frozen BK139.out 2; have hfz11_3 := blk_frozen BK139.out 3; have hfz11_4 := blk_frozen BK139.out 4)); try go_wp2_with (first | (go_at_call 65; (with_reducible refine (spec_l13Affix.calls k1 g s0_0 x1001_1 t133 t134 t135 t136 t137 t138 w0 _ ?side1 ?side2 A7.out).mono ?_); (case side1 => exact is66_); (case side2 => exact bs_); rintro e w8 ⟨rfl, hi, hb, hk⟩; replace HO_3 := Aside0.mk (kaR66_ (kR_ HO_3) hk); replace HK := Aside0.mk (KeepBut.trans kp_ hk (.inl rfl)); replace HB := Aside0.mk (hb); replace HI0 := Aside0.mk (hi); (try clear hb); (try clear hb2); (try clear hk); (try clear hi)) | ((with_reducible refine gate_dst (N := 5) rfl ?_); refine be_ 5 68 #[.string (⟨#[]⟩ : ByteArray), .bool false, .string (⟨#[]⟩ : ByteArray), .string (⟨#[]⟩ : ByteArray), .string (⟨#[]⟩ : ByteArray)] ?_; intro gb139 hg w9 hbox hb; replace HO_3 := Aside0.mk (Kd.R_below (Kd.R_elderB (kR_ HO_3) gb139 (Nat.le_of_eq hg.symm)) hb); replace HB := Aside0.mk (below_step bs_ hb); have BK139 := Aside0.mk (hbox); have GW139 := Aside0.mk ((gk_ hg : w.heap.size ≤ gb139)); have GE139 := Aside0.mk ((Nat.le_trans HW0.out (gk_ hg : w.heap.size ≤ gb139) : w0.heap.size ≤ gb139)); replace HK := Aside0.mk (KeepBut.trans kp_ (KeepBut.of_below hb g none) (.inl rfl)); have NB0_139 := Aside0.mk ((by rw [hg]; exact Nat.ne_of_lt (IsS66.lt (show IsS66 w0 _ g s0_0 t138 from is66_)) : g ≠ gb139)); have NB139_0 := Aside0.mk ((by rw [hg]; exact Nat.ne_of_gt (IsS66.lt (show IsS66 w0 _ g s0_0 t138 from is66_)) : gb139 ≠ g)); replace HI0 := Aside0.mk (IsS66.below is66_ hb); clear hb hbox hg; have hnb10 := NB139_0.out; have hnc10 := NB0_139.out; have hcz11_0 := bc0_ BK139; have hcz11_1 := bc1_ BK139; have hcz11_2 := bc2_ BK139; have hcz11_3 := bc3_ BK139; have hcz11_4 := bc4_ BK139; have hfz11_0 := blk_frozen BK139.out 0; have hfz11_1 := blk_frozen BK139.out 1; have hfz11_2 := blk_frozen BK139.out 2; have hfz11_3 := blk_frozen BK139.out 3; have hfz11_4 := blk_frozen BK139.out 4)))
   go_loopg [6, 7] k1 (fun kq v6 v7 w' => ∃ (x6_2 : Bool) (x7_2 : Int), v6 = .bool x6_2 ∧ v7 = .int .i64 x7_2 ∧ Aside0 (spec_l13Affixes.l1 kq x3_1 x4_1 x6_2 x7_2 s0_0 t138 t133 t134 t135 t136 t137 = some (r1, r2)) ∧ Aside0 (kq ≤ k1) ∧ Aside0 (Kd.R k68 68 w' w.heap.size (fun k_ => k_ ≠ gb139) u3 x3_1) ∧ Aside0 (w'.heap[gb139]? = some (.cells #[.string t133, .bool t134, .string t135, .string t136, .string t137] 68 (0, 0))) ∧ Aside0 (IsS66 w0 w' g s0_0 t138) ∧ Aside0 (KeepBut w w' g none) ∧ Aside0 (Below w0.heap.size w0 w'))
   case atStart => exact ⟨(false), (0), rf_, rf_, H', ⟨Nat.le_refl _⟩, ⟨by (with_reducible repeat (first | apply Kd.R_alloc | apply Kd.R_drewN | apply Kd.R_drew)); exact Kd.R_mono (Kd.R_far (p := ⟨gb139, 4, none⟩) (Kd.R_far (p := ⟨gb139, 3, none⟩) (Kd.R_far (p := ⟨gb139, 2, none⟩) (Kd.R_far (p := ⟨gb139, 1, none⟩) (Kd.R_far (p := ⟨gb139, 0, none⟩) (Kd.R_mono HO_3.out (fun k_ hk => (⟨hk, hk.2⟩ : _ ∧ k_ ≠ gb139))) (fun _ hk => hk.2) (.string t133)) (fun _ hk => hk.2) (.bool t134)) (fun _ hk => hk.2) (.string t135)) (fun _ hk => hk.2) (.string t136)) (fun _ hk => hk.2) (.string t137)) (fun _ hk => hk.1.2)⟩, ⟨by (with_reducible repeat (first | refine blk_drewN ?_ _ | refine blk_drew ?_ | refine blk_alloc ?_ _)); refine blk_put (cs := #[.string t133, .bool t134, .string t135, .string t136, .string (⟨#[]⟩ : ByteArray)]) ?_ 4 _ rfl; (with_reducible repeat (first | refine blk_drewN ?_ _ | refine blk_drew ?_ | refine blk_alloc ?_ _)); refine blk_put (cs := #[.string t133, .bool t134, .string t135, .string (⟨#[]⟩ : ByteArray), .string (⟨#[]⟩ : ByteArray)]) ?_ 3 _ rfl; (with_reducible repeat (first | refine blk_drewN ?_ _ | refine blk_drew ?_ | refine blk_alloc ?_ _)); refine blk_put (cs := #[.string t133, .bool t134, .string (⟨#[]⟩ : ByteArray), .string (⟨#[]⟩ : ByteArray), .string (⟨#[]⟩ : ByteArray)]) ?_ 2 _ rfl; (with_reducible repeat (first | refine blk_drewN ?_ _ | refine blk_drew ?_ | refine blk_alloc ?_ _)); refine blk_put (cs := #[.string t133, .bool false, .string (⟨#[]⟩ : ByteArray), .string (⟨#[]⟩ : ByteArray), .string (⟨#[]⟩ : ByteArray)]) ?_ 1 _ rfl; (with_reducible repeat (first | refine blk_drewN ?_ _ | refine blk_drew ?_ | refine blk_alloc ?_ _)); refine blk_put (cs := #[.string (⟨#[]⟩ : ByteArray), .bool false, .string (⟨#[]⟩ : ByteArray), .string (⟨#[]⟩ : ByteArray), .string (⟨#[]⟩ : ByteArray)]) ?_ 0 _ rfl; (with_reducible repeat (first | refine blk_drewN ?_ _ | refine blk_drew ?_ | refine blk_alloc ?_ _)); exact BK139.out⟩, ⟨is66_⟩, ⟨kp_⟩, ⟨bs_⟩⟩
   case round =>
    clear H'
    (try clear c1);(try clear p2);(try clear c6);(try clear c6b0);(try clear c10);(try clear hcz11_0);(try clear hcz11_1);(try clear hcz11_2);(try clear hcz11_3);(try clear hcz11_4);(try clear hfz11_0);(try clear hfz11_1);(try clear hfz11_2);(try clear hfz11_3);(try clear hfz11_4);(try clear p2)
    obtain ⟨x6_2, x7_2, rfl, rfl, HA, HK2, HO_3, BK139, HI0, HK, HB⟩ := hrel
    cases gk with
    | zero => exact absurd HA.out (by simp [spec_l13Affixes.l1])
    | succ k2 =>
     have H := HA.out
     clear HA
     simp only [spec_l13Affixes.l1] at H
     replace H := itdd_ H; rcases H with ⟨c12b0, H⟩ | ⟨c12b0, H⟩
     · replace H := itb_ H; rcases H with ⟨rfl, H⟩ | ⟨rfl, H⟩
       · have H' := Aside0.mk H
         clear H
         obtain ⟨Ao14, co14, eo14⟩ := Kd.R_slice HO_3.out
         subst eo14
         go_wp2
         repeat (go_quiet (fail); try go_wp2)
         go_roundg k2
         case measure => have := HK1.out; have := HK2.out; omega
         case rel => exact ⟨(true), (wrap64 (x7_2 + 1)), rf_, rf_, H', ⟨by have := HK1.out; have := HK2.out; omega⟩, ⟨kR_ HO_3⟩, ⟨by (with_reducible repeat (first | refine blk_drewN ?_ _ | refine blk_drew ?_ | refine blk_alloc ?_ _)); exact BK139.out⟩, ⟨is66_⟩, ⟨kp_⟩, ⟨bs_⟩⟩
       replace H := ind_ H; obtain ⟨c15b0, H⟩ := H
       have H' := Aside0.mk H; clear H
       obtain ⟨Ao16, co16, eo16⟩ := Kd.R_slice HO_3.out
       subst eo16
       have p140 : 0 ≤ (x7_2 : Int) := od_
       have q140 : x7_2 < (x3_1.length : Int) := od_
       obtain ⟨ad140, e140, hx140_0, hx140_1, hx140_2, hx140_3, hx140_4⟩ := at_T68 (Kd.R_reads' HO_3.out).2.2 x7_2 p140 q140
       cases e140
       replace p140 := eq_true p140; replace q140 := eq_true q140
       have hnb17 := NB139_0.out
       have hnc17 := NB0_139.out
       have hcz18_0 := bc0_ BK139
       have hcz18_1 := bc1_ BK139
       have hcz18_2 := bc2_ BK139
       have hcz18_3 := bc3_ BK139
       have hcz18_4 := bc4_ BK139
       have hfz18_0 := blk_frozen BK139.out 0
       have hfz18_1 := blk_frozen BK139.out 1
       have hfz18_2 := blk_frozen BK139.out 2
       have hfz18_3 := blk_frozen BK139.out 3
       have hfz18_4 := blk_frozen BK139.out 4
       go_wp2
       repeat (go_quiet (fail); try go_wp2)
       go_roundg k2
       case measure => have := HK1.out; have := HK2.out; omega
       case rel => exact ⟨(((((rd_T68 x3_1 x7_2).f0).toList) == t133.toList && (((rd_T68 x3_1 x7_2).f1) == t134 && ((((rd_T68 x3_1 x7_2).f2).toList) == t135.toList && ((((rd_T68 x3_1 x7_2).f3).toList) == t136.toList && ((((rd_T68 x3_1 x7_2).f4).toList) == t137.toList)))))), (wrap64 (x7_2 + 1)), rf_, rf_, H', ⟨by have := HK1.out; have := HK2.out; omega⟩, ⟨kR_ HO_3⟩, ⟨by (with_reducible repeat (first | refine blk_drewN ?_ _ | refine blk_drew ?_ | refine blk_alloc ?_ _)); exact BK139.out⟩, ⟨is66_⟩, ⟨kp_⟩, ⟨bs_⟩⟩
     replace H := itb_ H; rcases H with ⟨rfl, H⟩ | ⟨rfl, H⟩
     · have H' := Aside0.mk H
       clear H
       obtain ⟨Ao20, co20, eo20⟩ := Kd.R_slice HO_3.out
       subst eo20
       go_wp2
       repeat (go_quiet (fail); try go_wp2)
       go_roundg k2
       case measure => have := HK1.out; have := HK2.out; omega
       case rel => exact ⟨(x3_1), (wrap64 (x4_1 - 1)), (t138), rf_, H', ⟨by have := HK1.out; have := HK2.out; omega⟩, ⟨by (with_reducible repeat (first | apply Kd.R_alloc | apply Kd.R_drewN | apply Kd.R_drew)); exact Kd.R_mono HO_3.out (fun _ hk => trivial)⟩, ⟨is66_⟩, ⟨kp_⟩, ⟨bs_⟩⟩
     replace H := inc_ H; obtain ⟨c21, H⟩ := H
     have LMc21 := Aside0.mk c21
     clear c21
     obtain ⟨y141, hy_⟩ : ∃ y_ : List (S68), y_ = (x3_1 ++ [(⟨t133, t134, t135, t136, t137⟩ : S68)]) := ⟨_, rfl⟩
     replace H : (spec_l13Affixes.l0 k2 y141 (wrap64 (x4_1 - 1)) s0_0 t138) = some (r1, r2) := ry_
     have Ny141 := Aside0.mk hy_; clear hy_
     have H' := Aside0.mk H; clear H
     obtain ⟨Ao22, co22, eo22⟩ := Kd.R_slice HO_3.out
     subst eo22
     have hnb23 := NB139_0.out
     have hnc23 := NB0_139.out
     have hcz24_0 := bc0_ BK139
     have hcz24_1 := bc1_ BK139
     have hcz24_2 := bc2_ BK139
     have hcz24_3 := bc3_ BK139
     have hcz24_4 := bc4_ BK139
     have hfz24_0 := blk_frozen BK139.out 0
     have hfz24_1 := blk_frozen BK139.out 1
     have hfz24_2 := blk_frozen BK139.out 2
     have hfz24_3 := blk_frozen BK139.out 3
     have hfz24_4 := blk_frozen BK139.out 4
     go_wp2_with (first | ((with_reducible refine gate_builtin (b := .append) (xs := #[.tmp 34, .tmp 36]) rfl ?_); at_builtin; refine Kd.R_append k68 w.heap.size rfl (.tmp 34) (.tmp 36) 23 68 (.agg #[(.string ⟨#[]⟩), (.bool false), (.string ⟨#[]⟩), (.string ⟨#[]⟩), (.string ⟨#[]⟩)]) 72 rfl Try.underlying23 info68 rfl (by decide) (by omega) (.slice Ao22 x3_1.length co22) x3_1 (⟨t133, t134, t135, t136, t137⟩ : S68) [.string t133, .bool t134, .string t135, .string t136, .string t137] (fun k_ => k_ ≠ gb139) (fun _ => False) rfl rfl ?aP (fun _ hk => hk.elim) ?aF ?aO (Below.refl _ _) ?aS ?aL ?_; (case aP => exact k68_mkM _ _ _ (⟨t133, t134, t135, t136, t137⟩ : S68)); (case aF => exact (fun k_ hk => Kd.freshB (bk_ BK139) k_ hk)); (case aO => exact (kR_ HO_3)); (case aS => exact ks_); (case aL => have := LMc21.out; omega); intro v142 w25 ho hb hg hat; rw [← Ny141.out] at ho; replace BK139 := Aside0.mk (blk_grown (bk_ BK139) hg (Kd.R_away HO_3.out (fun _ hk => hk))); replace HB := Aside0.mk (below_weaken bs_ HL.out hb); replace HI0 := Aside0.mk (IsS66.grown is66_ hg (IsS66.own_ne HI0.out HO_3.out (by decide))); replace HK := Aside0.mk (KeepBut.trans kp_ (KeepBut.of_grown hg g) (Kd.R_base2 HO_3.out)); have HO143 := Aside0.mk (ho); clear HO_3; clear ho hb hg hat))
     repeat (go_quiet (first | ((with_reducible refine gate_builtin (b := .append) (xs := #[.tmp 34, .tmp 36]) rfl ?_); at_builtin; refine Kd.R_append k68 w.heap.size rfl (.tmp 34) (.tmp 36) 23 68 (.agg #[(.string ⟨#[]⟩), (.bool false), (.string ⟨#[]⟩), (.string ⟨#[]⟩), (.string ⟨#[]⟩)]) 72 rfl Try.underlying23 info68 rfl (by decide) (by omega) (.slice Ao22 x3_1.length co22) x3_1 (⟨t133, t134, t135, t136, t137⟩ : S68) [.string t133, .bool t134, .string t135, .string t136, .string t137] (fun k_ => k_ ≠ gb139) (fun _ => False) rfl rfl ?aP (fun _ hk => hk.elim) ?aF ?aO (Below.refl _ _) ?aS ?aL ?_; (case aP => exact k68_mkM _ _ _ (⟨t133, t134, t135, t136, t137⟩ : S68)); (case aF => exact (fun k_ hk => Kd.freshB (bk_ BK139) k_ hk)); (case aO => exact (kR_ HO_3)); (case aS => exact ks_); (case aL => have := LMc21.out; omega); intro v142 w25 ho hb hg hat; rw [← Ny141.out] at ho; replace BK139 := Aside0.mk (blk_grown (bk_ BK139) hg (Kd.R_away HO_3.out (fun _ hk => hk))); replace HB := Aside0.mk (below_weaken bs_ HL.out hb); replace HI0 := Aside0.mk (IsS66.grown is66_ hg (IsS66.own_ne HI0.out HO_3.out (by decide))); replace HK := Aside0.mk (KeepBut.trans kp_ (KeepBut.of_grown hg g) (Kd.R_base2 HO_3.out)); have HO143 := Aside0.mk (ho); clear HO_3; clear ho hb hg hat)); try go_wp2_with (first | ((with_reducible refine gate_builtin (b := .append) (xs := #[.tmp 34, .tmp 36]) rfl ?_); at_builtin; refine Kd.R_append k68 w.heap.size rfl (.tmp 34) (.tmp 36) 23 68 (.agg #[(.string ⟨#[]⟩), (.bool false), (.string ⟨#[]⟩), (.string ⟨#[]⟩), (.string ⟨#[]⟩)]) 72 rfl Try.underlying23 info68 rfl (by decide) (by omega) (.slice Ao22 x3_1.length co22) x3_1 (⟨t133, t134, t135, t136, t137⟩ : S68) [.string t133, .bool t134, .string t135, .string t136, .string t137] (fun k_ => k_ ≠ gb139) (fun _ => False) rfl rfl ?aP (fun _ hk => hk.elim) ?aF ?aO (Below.refl _ _) ?aS ?aL ?_; (case aP => exact k68_mkM _ _ _ (⟨t133, t134, t135, t136, t137⟩ : S68)); (case aF => exact (fun k_ hk => Kd.freshB (bk_ BK139) k_ hk)); (case aO => exact (kR_ HO_3)); (case aS => exact ks_); (case aL => have := LMc21.out; omega); intro v142 w25 ho hb hg hat; rw [← Ny141.out] at ho; replace BK139 := Aside0.mk (blk_grown (bk_ BK139) hg (Kd.R_away HO_3.out (fun _ hk => hk))); replace HB := Aside0.mk (below_weaken bs_ HL.out hb); replace HI0 := Aside0.mk (IsS66.grown is66_ hg (IsS66.own_ne HI0.out HO_3.out (by decide))); replace HK := Aside0.mk (KeepBut.trans kp_ (KeepBut.of_grown hg g) (Kd.R_base2 HO_3.out)); have HO143 := Aside0.mk (ho); clear HO_3; clear ho hb hg hat)))
     go_roundg k2
     case measure => have := HK1.out; have := HK2.out; omega
     case rel => exact ⟨(y141), (wrap64 (x4_1 - 1)), (t138), rf_, H', ⟨by have := HK1.out; have := HK2.out; omega⟩, ⟨by (with_reducible repeat (first | apply Kd.R_alloc | apply Kd.R_drewN | apply Kd.R_drew)); exact Kd.R_mono HO143.out (fun _ hk => trivial)⟩, ⟨is66_⟩, ⟨kp_⟩, ⟨bs_⟩⟩

/-! ### spec_l1Rd_of: function 42 -/
def spec_l1Rd_of.f (k : Nat) (s0_0 : List Int) (s0_1 : Int) (l1 : List ByteArray) : Option (ByteArray × Int) := (spec_l1Rd_pick.f k s0_0 s0_1 (l1.length : Int)).bind fun bt144 => (if 0 ≤ bt144.1 then (if bt144.1 < (l1.length : Int) then (some (rdOf ByteArray.empty l1 bt144.1, bt144.2)) else (none)) else (none))
theorem spec_l1Rd_of.mono : ∀ a0 a1 a2 k, LeO (spec_l1Rd_of.f k a0 a1 a2) (spec_l1Rd_of.f (k + 1) a0 a1 a2) := by
 intro a0 a1 a2 k
 unfold spec_l1Rd_of.f
 have m0 := @spec_l1Rd_pick.mono
 exact mn_
theorem spec_l1Rd_of.calls (k : Nat) (g : Nat) (s0_0 : List Int) (s0_1 : Int) (A1 : Option Addr) (c1 : Nat) (l1 : List ByteArray) (r1 : ByteArray) (r2 : Int) (w0 w : World) (hI : IsS66 w0 w g s0_0 s0_1) (hB : Below w0.heap.size w0 w) (hr1 : Kd.C Kd.string w A1 l1.length l1) (hc1 : l1.length ≤ c1) (hf1 : ∀ ad, A1 = some ad → 0 < l1.length → ad.block ≠ g) (h : spec_l1Rd_of.f k s0_0 s0_1 l1 = some (r1, r2)) :
 Calls Try.prog 42 #[.pointer (some ⟨g, 0, none⟩), .slice A1 l1.length c1] w fun e w' => e = .returned (.string r1) ∧ IsS66 w0 w' g s0_0 r2 ∧ Below w0.heap.size w0 w' ∧ KeepBut w w' g none := by
 have HR1 := Aside0.mk hr1
 have HC1 := Aside0.mk hc1
 clear hr1 hc1
 have HI0 := Aside0.mk hI
 have HK := Aside0.mk (KeepBut.refl w g none)
 have HL := Aside0.mk hB.size
 clear hI
 have HW0 := Aside0.mk hB.size
 have HB := Aside0.mk hB
 clear hB
 unfold spec_l1Rd_of.f at h; have H := h; clear h
 replace H := Option.bind_eq_some_iff.mp H
 obtain ⟨⟨t144, t145⟩, A30, H⟩ := H; try dsimp only at H
 have A3 := Aside0.mk A30
 clear A30
 replace H := ind_ H; obtain ⟨c4b0, H⟩ := H
 replace H := ind_ H; obtain ⟨c5b0, H⟩ := H
 simp only [Option.some.injEq, Prod.mk.injEq] at H
 obtain ⟨rfl, rfl⟩ := H
 go_enter Try.func42, Try.ntmps42
 go_wp2_with (first | ((with_reducible refine gate_callee (f := 20) rfl ?_); refine gl_ 9 Try.func20 #[.pointer (some ⟨g, 0, none⟩), .int .i64 (l1.length : Int)] ?_; (with_reducible refine (spec_l1Rd_pick.calls k g s0_0 s0_1 (l1.length : Int) t144 t145 w0 _ ?side1 ?side2 A3.out).mono ?_); (case side1 => exact is66_); (case side2 => exact bs_); rintro e w6 ⟨rfl, hi, hb, hk⟩; refine ⟨_, rfl, ?_⟩; replace HK := Aside0.mk (KeepBut.trans kp_ hk (.inl rfl)); replace HB := Aside0.mk (hb); replace HI0 := Aside0.mk (hi); (try clear hb); (try clear hb2); (try clear hk); (try clear hi); have p146 : 0 ≤ (t144 : Int) := od_; have q146 : t144 < (l1.length : Int) := od_; obtain ⟨ad146, e146, hx146_0⟩ := Kd.at_string HR1.out t144 p146 q146; cases e146; replace hx146_0 := keep_cell HK.out hx146_0 (by first | (rw [add_block]; exact hf1 _ rfl (by omega)) | exact hf1 _ rfl (by omega) | exact hf1 ad146 rfl (by omega)); replace p146 := eq_true p146; replace q146 := eq_true q146))
 go_ret
 exact ⟨rfe_, is66_, bs_, kp_⟩

/-! ### spec_l1Least: function 77 -/
def spec_l1Least.f (a0 : Int) (a1 : Int) : Option (Int) := if a0 < a1 then (some a0) else (some a1)
theorem spec_l1Least.calls (a0 : Int) (a1 : Int) (r : Int) (w : World) (h : spec_l1Least.f a0 a1 = some r) :
 Calls Try.prog 77 #[.int .i64 a0, .int .i64 a1] w fun e w' => e = .returned (.int .i64 r) ∧ Drawn0 w w' := by
 unfold spec_l1Least.f at h; have H := h; clear h
 replace H := itdd_ H; rcases H with ⟨c3b0, H⟩ | ⟨c3b0, H⟩
 · obtain rfl := Option.some.inj H
   go_enter Try.func77, Try.ntmps77
   go_wp2
   go_ret
   exact ⟨rf_, dr_⟩
 obtain rfl := Option.some.inj H
 go_enter Try.func77, Try.ntmps77
 go_wp2
 go_ret
 exact ⟨rf_, dr_⟩

/-! ### spec_l13Word: function 63 -/
def spec_l13Word.l0 : Nat → ByteArray → Int → List Int → Int → Option (ByteArray × Int)
 | 0, _, _, _, _ => none
 | k + 1, x3, x4, x1000, x1001 => if x4 > 0 then ((spec_l1Rd_of.f k x1000 x1001 (([(⟨#[97]⟩ : ByteArray), (⟨#[98]⟩ : ByteArray), (⟨#[99]⟩ : ByteArray), (⟨#[97, 98]⟩ : ByteArray), (⟨#[116]⟩ : ByteArray)] : List ByteArray))).bind fun bt154 => (if x3.size + bt154.1.size ≤ 9223372036854775807 then (spec_l13Word.l0 k (x3 ++ bt154.1) (wrap64 (x4 - 1)) x1000 bt154.2) else (none))) else ((spec_l1Least.f (x3.size : Int) 12).bind fun t156 => (if 0 ≤ t156 then (if t156 ≤ (x3.size : Int) then (some (x3.extract 0 (t156 : Int).toNat, x1001)) else (none)) else (none)))
def spec_l13Word.f (k : Nat) (s0_0 : List Int) (s0_1 : Int) : Option (ByteArray × Int) := (spec_l1Rd_pick.f k s0_0 s0_1 3).bind fun bt147 => (if bt147.1 = 0 then ((spec_l1Rd_pick.f k s0_0 bt147.2 5).bind fun bt149 => (spec_l13Word.l0 k (⟨#[]⟩ : ByteArray) (wrap64 (1 + bt149.1)) s0_0 bt149.2)) else ((spec_l1Rd_of.f k s0_0 bt147.2 (([(⟨#[99, 97, 116]⟩ : ByteArray), (⟨#[99, 97, 116, 115]⟩ : ByteArray), (⟨#[97, 99, 116]⟩ : ByteArray), (⟨#[100, 111]⟩ : ByteArray), (⟨#[100, 111, 105, 110, 103]⟩ : ByteArray), (⟨#[103, 111]⟩ : ByteArray), (⟨#[117, 110, 100, 111]⟩ : ByteArray), (⟨#[116, 114, 121]⟩ : ByteArray), (⟨#[116, 114, 105, 101, 115]⟩ : ByteArray), (⟨#[97]⟩ : ByteArray), (⟨#[98, 97, 107, 101]⟩ : ByteArray), (⟨#[98, 97, 107, 105, 110, 103]⟩ : ByteArray), (⟨#[116, 97, 99, 116]⟩ : ByteArray), (⟨#[99, 97, 114, 116]⟩ : ByteArray), (⟨#[97, 98, 99, 97, 98, 99, 97, 98, 99, 97, 98, 99]⟩ : ByteArray)] : List ByteArray))).bind fun bt160 => (some (bt160.1, bt160.2))))
theorem spec_l13Word.mono_l : ∀ k, (∀ y0 y1 y2 y3, LeO (spec_l13Word.l0 k y0 y1 y2 y3) (spec_l13Word.l0 (k + 1) y0 y1 y2 y3))
 | 0 => fun _ _ _ _ r h => by simp [spec_l13Word.l0] at h
 | k + 1 => by
  have ih0 := spec_l13Word.mono_l k
  · intro y0 y1 y2 y3
    unfold spec_l13Word.l0
    have m0 := @spec_l1Rd_of.mono
    have m1 := @spec_l1Rd_pick.mono
    exact mn_
theorem spec_l13Word.mono : ∀ a0 a1 k, LeO (spec_l13Word.f k a0 a1) (spec_l13Word.f (k + 1) a0 a1) := by
 intro a0 a1 k
 have ih0 := spec_l13Word.mono_l k
 unfold spec_l13Word.f
 have m0 := @spec_l1Rd_of.mono
 have m1 := @spec_l1Rd_pick.mono
 exact mn_
theorem spec_l13Word.calls (k : Nat) (g : Nat) (s0_0 : List Int) (s0_1 : Int) (r1 : ByteArray) (r2 : Int) (w0 w : World) (hI : IsS66 w0 w g s0_0 s0_1) (hB : Below w0.heap.size w0 w) (h : spec_l13Word.f k s0_0 s0_1 = some (r1, r2)) :
 Calls Try.prog 63 #[.pointer (some ⟨g, 0, none⟩)] w fun e w' => e = .returned (.string r1) ∧ IsS66 w0 w' g s0_0 r2 ∧ Below w0.heap.size w0 w' ∧ KeepBut w w' g none := by
 have HI0 := Aside0.mk hI
 have HK := Aside0.mk (KeepBut.refl w g none)
 have HL := Aside0.mk hB.size
 clear hI
 have HW0 := Aside0.mk hB.size
 have HB := Aside0.mk hB
 clear hB
 unfold spec_l13Word.f at h; have H := h; clear h
 replace H := Option.bind_eq_some_iff.mp H
 obtain ⟨⟨t147, t148⟩, A20, H⟩ := H; try dsimp only at H
 have A2 := Aside0.mk A20
 clear A20
 replace H := iucc_ H; rcases H with ⟨c3, H⟩ | ⟨c3, H⟩
 · have c3b0 : (t147 == 0) = false := beq_eq_false_iff_ne.mpr c3
   have c3b1 : (t147 != 0) = true := bne_iff_ne.mpr c3
   obtain ⟨y157, hy_⟩ : ∃ y_ : List ByteArray, y_ = (([(⟨#[99, 97, 116]⟩ : ByteArray), (⟨#[99, 97, 116, 115]⟩ : ByteArray), (⟨#[97, 99, 116]⟩ : ByteArray), (⟨#[100, 111]⟩ : ByteArray), (⟨#[100, 111, 105, 110, 103]⟩ : ByteArray), (⟨#[103, 111]⟩ : ByteArray), (⟨#[117, 110, 100, 111]⟩ : ByteArray), (⟨#[116, 114, 121]⟩ : ByteArray), (⟨#[116, 114, 105, 101, 115]⟩ : ByteArray), (⟨#[97]⟩ : ByteArray), (⟨#[98, 97, 107, 101]⟩ : ByteArray), (⟨#[98, 97, 107, 105, 110, 103]⟩ : ByteArray), (⟨#[116, 97, 99, 116]⟩ : ByteArray), (⟨#[99, 97, 114, 116]⟩ : ByteArray), (⟨#[97, 98, 99, 97, 98, 99, 97, 98, 99, 97, 98, 99]⟩ : ByteArray)] : List ByteArray)) := ⟨_, rfl⟩
   replace H : ((spec_l1Rd_of.f k s0_0 t148 y157).bind fun bt160 => (some (bt160.1, bt160.2))) = some (r1, r2) := ry_
   have Ny157 := Aside0.mk hy_; clear hy_
   replace H := Option.bind_eq_some_iff.mp H
   obtain ⟨⟨t160, t161⟩, A170, H⟩ := H; try dsimp only at H
   have A17 := Aside0.mk A170
   clear A170
   simp only [Option.some.injEq, Prod.mk.injEq] at H
   obtain ⟨rfl, rfl⟩ := H
   go_enter Try.func63, Try.ntmps63
   go_wp2_with (first | ((with_reducible refine gate_callee (f := 20) rfl ?_); refine gl_ 6 Try.func20 #[.pointer (some ⟨g, 0, none⟩), .int .i64 3] ?_; (with_reducible refine (spec_l1Rd_pick.calls k g s0_0 s0_1 3 t147 t148 w0 _ ?side1 ?side2 A2.out).mono ?_); (case side1 => exact is66_); (case side2 => exact bs_); rintro e w18 ⟨rfl, hi, hb, hk⟩; refine ⟨_, rfl, ?_⟩; replace HK := Aside0.mk (KeepBut.trans kp_ hk (.inl rfl)); replace HB := Aside0.mk (hb); replace HI0 := Aside0.mk (hi); (try clear hb); (try clear hb2); (try clear hk); (try clear hi)) | ((with_reducible refine gate_dst (N := 26) rfl ?_); refine rl_ Kd.string 9 26 ([(⟨#[99, 97, 116]⟩ : ByteArray), (⟨#[99, 97, 116, 115]⟩ : ByteArray), (⟨#[97, 99, 116]⟩ : ByteArray), (⟨#[100, 111]⟩ : ByteArray), (⟨#[100, 111, 105, 110, 103]⟩ : ByteArray), (⟨#[103, 111]⟩ : ByteArray), (⟨#[117, 110, 100, 111]⟩ : ByteArray), (⟨#[116, 114, 121]⟩ : ByteArray), (⟨#[116, 114, 105, 101, 115]⟩ : ByteArray), (⟨#[97]⟩ : ByteArray), (⟨#[98, 97, 107, 101]⟩ : ByteArray), (⟨#[98, 97, 107, 105, 110, 103]⟩ : ByteArray), (⟨#[116, 97, 99, 116]⟩ : ByteArray), (⟨#[99, 97, 114, 116]⟩ : ByteArray), (⟨#[97, 98, 99, 97, 98, 99, 97, 98, 99, 97, 98, 99]⟩ : ByteArray)] : List ByteArray) [.string (⟨#[99, 97, 116]⟩ : ByteArray), .string (⟨#[99, 97, 116, 115]⟩ : ByteArray), .string (⟨#[97, 99, 116]⟩ : ByteArray), .string (⟨#[100, 111]⟩ : ByteArray), .string (⟨#[100, 111, 105, 110, 103]⟩ : ByteArray), .string (⟨#[103, 111]⟩ : ByteArray), .string (⟨#[117, 110, 100, 111]⟩ : ByteArray), .string (⟨#[116, 114, 121]⟩ : ByteArray), .string (⟨#[116, 114, 105, 101, 115]⟩ : ByteArray), .string (⟨#[97]⟩ : ByteArray), .string (⟨#[98, 97, 107, 101]⟩ : ByteArray), .string (⟨#[98, 97, 107, 105, 110, 103]⟩ : ByteArray), .string (⟨#[116, 97, 99, 116]⟩ : ByteArray), .string (⟨#[99, 97, 114, 116]⟩ : ByteArray), .string (⟨#[97, 98, 99, 97, 98, 99, 97, 98, 99, 97, 98, 99]⟩ : ByteArray)] ?_; intro v158 w19 ho20 hb hg_ hnew_; clear hg_ hnew_; (first | rw [← Ny157.out] at ho20 | (simp only [Int.reduceToNat] at ho20; rw [← Ny157.out] at ho20)); have HO159 := Aside0.mk (Kd.R_lower ho20 ks_); replace HK := Aside0.mk (KeepBut.trans kp_ (KeepBut.of_below hb g none) (.inl rfl)); replace HB := Aside0.mk (below_step bs_ hb); replace HI0 := Aside0.mk (IsS66.below is66_ hb); clear hb ho20; obtain ⟨Ao21, co21, eo21⟩ := Kd.R_slice HO159.out; subst eo21) | ((with_reducible refine gate_callee (f := 42) rfl ?_); refine gl_ 27 Try.func42 #[.pointer (some ⟨g, 0, none⟩), .slice Ao21 y157.length co21] ?_; (with_reducible refine (spec_l1Rd_of.calls k g s0_0 t148 _ _ y157 t160 t161 w0 _ ?side1 ?side2 ?side3 ?side4 ?side5 A17.out).mono ?_); (case side1 => exact is66_); (case side2 => exact bs_); (case side3 => exact cr_ HO159); (case side4 => exact (Kd.R_reads' HO159.out).2.1); (case side5 => exact far_slice (IsS66.own_ne HI0.out HO159.out (by decide))); rintro e w22 ⟨rfl, hi, hb, hk⟩; refine ⟨_, rfl, ?_⟩; replace HO159 := Aside0.mk (kaR66_ (kR_ HO159) hk); replace HK := Aside0.mk (KeepBut.trans kp_ hk (.inl rfl)); replace HB := Aside0.mk (hb); replace HI0 := Aside0.mk (hi); (try clear hb); (try clear hb2); (try clear hk); (try clear hi)))
   go_ret
   exact ⟨rfe_, is66_, bs_, kp_⟩
 have c3b0 : (t147 == 0) = true := beq_iff_eq.mpr c3
 have c3b1 : (t147 != 0) = false := bne_eq_false_iff_eq.mpr c3
 clear c3
 replace H := Option.bind_eq_some_iff.mp H
 obtain ⟨⟨t149, t150⟩, A40, H⟩ := H; try dsimp only at H
 have A4 := Aside0.mk A40
 clear A40
 have H' := Aside0.mk H; clear H
 go_enter Try.func63, Try.ntmps63
 go_wp2_with (first | ((with_reducible refine gate_callee (f := 20) rfl ?_); refine gl_ 6 Try.func20 #[.pointer (some ⟨g, 0, none⟩), .int .i64 3] ?_; (with_reducible refine (spec_l1Rd_pick.calls k g s0_0 s0_1 3 t147 t148 w0 _ ?side1 ?side2 A2.out).mono ?_); (case side1 => exact is66_); (case side2 => exact bs_); rintro e w5 ⟨rfl, hi, hb, hk⟩; refine ⟨_, rfl, ?_⟩; replace HK := Aside0.mk (KeepBut.trans kp_ hk (.inl rfl)); replace HB := Aside0.mk (hb); replace HI0 := Aside0.mk (hi); (try clear hb); (try clear hb2); (try clear hk); (try clear hi)) | ((with_reducible refine gate_callee (f := 20) rfl ?_); refine gl_ 9 Try.func20 #[.pointer (some ⟨g, 0, none⟩), .int .i64 5] ?_; (with_reducible refine (spec_l1Rd_pick.calls k g s0_0 t148 5 t149 t150 w0 _ ?side1 ?side2 A4.out).mono ?_); (case side1 => exact is66_); (case side2 => exact bs_); rintro e w6 ⟨rfl, hi, hb, hk⟩; refine ⟨_, rfl, ?_⟩; replace HK := Aside0.mk (KeepBut.trans kp_ hk (.inl rfl)); replace HB := Aside0.mk (hb); replace HI0 := Aside0.mk (hi); (try clear hb); (try clear hb2); (try clear hk); (try clear hi)))
 go_loopg [3, 4] k (fun kq v3 v4 w' => ∃ (x3_1 : ByteArray) (x4_1 : Int) (x1001_1 : Int), v3 = .string x3_1 ∧ v4 = .int .i64 x4_1 ∧ Aside0 (spec_l13Word.l0 kq x3_1 x4_1 s0_0 x1001_1 = some (r1, r2)) ∧ Aside0 (kq ≤ k) ∧ Aside0 (IsS66 w0 w' g s0_0 x1001_1) ∧ Aside0 (KeepBut w w' g none) ∧ Aside0 (Below w0.heap.size w0 w'))
 case atStart => exact ⟨((⟨#[]⟩ : ByteArray)), (wrap64 (1 + t149)), (t150), rf_, rf_, H', ⟨Nat.le_refl _⟩, ⟨is66_⟩, ⟨kp_⟩, ⟨bs_⟩⟩
 case round =>
  clear H'
  (try clear c2);(try clear p2);(try clear c3);(try clear c3b0);(try clear c3b1);(try clear c6);(try clear p6)
  obtain ⟨x3_1, x4_1, x1001_1, rfl, rfl, HA, HK1, HI0, HK, HB⟩ := hrel
  cases gk with
  | zero => exact absurd HA.out (by simp [spec_l13Word.l0])
  | succ k1 =>
   have H := HA.out
   clear HA
   simp only [spec_l13Word.l0] at H
   replace H := iucc_ H; rcases H with ⟨c7, H⟩ | ⟨c7, H⟩
   · have c7b0 : decide (0 < x4_1) = false := decide_eq_false c7
     clear c7
     replace H := Option.bind_eq_some_iff.mp H
     obtain ⟨t156, A140, H⟩ := H; try dsimp only at H
     have A14 := Aside0.mk A140
     clear A140
     replace H := inc_ H; obtain ⟨c15, H⟩ := H
     have c15b0 := eq_true c15
     have c15b1 : decide (0 ≤ t156) = true := decide_eq_true c15
     clear c15
     replace H := inc_ H; obtain ⟨c16, H⟩ := H
     have c16b0 := eq_true c16
     have c16b1 : decide (t156 ≤ (x3_1.size : Int)) = true := decide_eq_true c16
     clear c16
     simp only [Option.some.injEq, Prod.mk.injEq] at H
     obtain ⟨rfl, rfl⟩ := H
     go_wp2_with (first | ((with_reducible refine gate_callee (f := 77) rfl ?_); refine gl_ 23 Try.func77 #[.int .i64 (x3_1.size : Int), .int .i64 12] ?_; (with_reducible refine (spec_l1Least.calls (x3_1.size : Int) 12 t156 _ A14.out).mono ?_); rintro e w' ⟨rfl, ⟨nd, rfl⟩⟩; refine ⟨_, rfl, ?_⟩))
     go_ret
     exact ⟨rfe_, is66_, bs_, kp_⟩
   have c7b0 : decide (0 < x4_1) = true := decide_eq_true c7
   clear c7
   obtain ⟨y151, hy_⟩ : ∃ y_ : List ByteArray, y_ = (([(⟨#[97]⟩ : ByteArray), (⟨#[98]⟩ : ByteArray), (⟨#[99]⟩ : ByteArray), (⟨#[97, 98]⟩ : ByteArray), (⟨#[116]⟩ : ByteArray)] : List ByteArray)) := ⟨_, rfl⟩
   replace H : ((spec_l1Rd_of.f k1 s0_0 x1001_1 y151).bind fun bt154 => (if x3_1.size + bt154.1.size ≤ 9223372036854775807 then (spec_l13Word.l0 k1 (x3_1 ++ bt154.1) (wrap64 (x4_1 - 1)) s0_0 bt154.2) else (none))) = some (r1, r2) := ry_
   have Ny151 := Aside0.mk hy_; clear hy_
   replace H := Option.bind_eq_some_iff.mp H
   obtain ⟨⟨t154, t155⟩, A80, H⟩ := H; try dsimp only at H
   have A8 := Aside0.mk A80
   clear A80
   replace H := inc_ H; obtain ⟨c9, H⟩ := H
   have c9b0 := eq_true c9
   have c9b1 : decide (x3_1.size + t154.size ≤ 9223372036854775807) = true := decide_eq_true c9
   try have c9b2 : (9223372036854775807 < x3_1.size + t154.size) = False := eq_false (Nat.not_lt.2 c9)
   have H' := Aside0.mk H; clear H
   go_wp2_with (first | ((with_reducible refine gate_dst (N := 17) rfl ?_); refine rl_ Kd.string 9 17 ([(⟨#[97]⟩ : ByteArray), (⟨#[98]⟩ : ByteArray), (⟨#[99]⟩ : ByteArray), (⟨#[97, 98]⟩ : ByteArray), (⟨#[116]⟩ : ByteArray)] : List ByteArray) [.string (⟨#[97]⟩ : ByteArray), .string (⟨#[98]⟩ : ByteArray), .string (⟨#[99]⟩ : ByteArray), .string (⟨#[97, 98]⟩ : ByteArray), .string (⟨#[116]⟩ : ByteArray)] ?_; intro v152 w10 ho11 hb hg_ hnew_; clear hg_ hnew_; (first | rw [← Ny151.out] at ho11 | (simp only [Int.reduceToNat] at ho11; rw [← Ny151.out] at ho11)); have HO153 := Aside0.mk (Kd.R_lower ho11 ks_); replace HK := Aside0.mk (KeepBut.trans kp_ (KeepBut.of_below hb g none) (.inl rfl)); replace HB := Aside0.mk (below_step bs_ hb); replace HI0 := Aside0.mk (IsS66.below is66_ hb); clear hb ho11; obtain ⟨Ao12, co12, eo12⟩ := Kd.R_slice HO153.out; subst eo12) | ((with_reducible refine gate_callee (f := 42) rfl ?_); refine gl_ 18 Try.func42 #[.pointer (some ⟨g, 0, none⟩), .slice Ao12 y151.length co12] ?_; (with_reducible refine (spec_l1Rd_of.calls k1 g s0_0 x1001_1 _ _ y151 t154 t155 w0 _ ?side1 ?side2 ?side3 ?side4 ?side5 A8.out).mono ?_); (case side1 => exact is66_); (case side2 => exact bs_); (case side3 => exact cr_ HO153); (case side4 => exact (Kd.R_reads' HO153.out).2.1); (case side5 => exact far_slice (IsS66.own_ne HI0.out HO153.out (by decide))); rintro e w13 ⟨rfl, hi, hb, hk⟩; refine ⟨_, rfl, ?_⟩; replace HO153 := Aside0.mk (kaR66_ (kR_ HO153) hk); replace HK := Aside0.mk (KeepBut.trans kp_ hk (.inl rfl)); replace HB := Aside0.mk (hb); replace HI0 := Aside0.mk (hi); (try clear hb); (try clear hb2); (try clear hk); (try clear hi)))
   go_roundg k1
   case measure => have := HK1.out; omega
   case rel => exact ⟨(x3_1 ++ t154), (wrap64 (x4_1 - 1)), (t155), rf_, rf_, H', ⟨by have := HK1.out; omega⟩, ⟨is66_⟩, ⟨kp_⟩, ⟨bs_⟩⟩

/-! ### spec_l13Entry: function 64 -/
def spec_l13Entry.f (k : Nat) (s0_0 : List Int) (s0_1 : Int) (a1 : ByteArray) : Option (ByteArray × ByteArray × Int) := (spec_l1Rd_of.f k s0_0 s0_1 (([(⟨#[]⟩ : ByteArray), (⟨#[]⟩ : ByteArray), (⟨#[83]⟩ : ByteArray), (⟨#[71, 83]⟩ : ByteArray), (⟨#[85]⟩ : ByteArray), (⟨#[71, 85]⟩ : ByteArray), (⟨#[82]⟩ : ByteArray), (⟨#[84]⟩ : ByteArray), (⟨#[67, 82, 83, 85]⟩ : ByteArray)] : List ByteArray))).bind fun bt166 => (some (a1, bt166.1, bt166.2))
theorem spec_l13Entry.mono : ∀ a0 a1 a2 k, LeO (spec_l13Entry.f k a0 a1 a2) (spec_l13Entry.f (k + 1) a0 a1 a2) := by
 intro a0 a1 a2 k
 unfold spec_l13Entry.f
 have m0 := @spec_l1Rd_of.mono
 exact mn_
theorem spec_l13Entry.calls (k : Nat) (g : Nat) (s0_0 : List Int) (s0_1 : Int) (a1 : ByteArray) (r1 : ByteArray) (r2 : ByteArray) (r3 : Int) (w0 w : World) (hI : IsS66 w0 w g s0_0 s0_1) (hB : Below w0.heap.size w0 w) (h : spec_l13Entry.f k s0_0 s0_1 a1 = some (r1, r2, r3)) :
 Calls Try.prog 64 #[.pointer (some ⟨g, 0, none⟩), .string a1] w fun e w' => e = .returned (.agg #[.string r1, .string r2]) ∧ IsS66 w0 w' g s0_0 r3 ∧ Below w0.heap.size w0 w' ∧ KeepBut w w' g none := by
 have hu73 := Try.underlying73
 have HI0 := Aside0.mk hI
 have HK := Aside0.mk (KeepBut.refl w g none)
 have HL := Aside0.mk hB.size
 clear hI
 have HW0 := Aside0.mk hB.size
 have HB := Aside0.mk hB
 clear hB
 unfold spec_l13Entry.f at h; have H := h; clear h
 obtain ⟨y163, hy_⟩ : ∃ y_ : List ByteArray, y_ = (([(⟨#[]⟩ : ByteArray), (⟨#[]⟩ : ByteArray), (⟨#[83]⟩ : ByteArray), (⟨#[71, 83]⟩ : ByteArray), (⟨#[85]⟩ : ByteArray), (⟨#[71, 85]⟩ : ByteArray), (⟨#[82]⟩ : ByteArray), (⟨#[84]⟩ : ByteArray), (⟨#[67, 82, 83, 85]⟩ : ByteArray)] : List ByteArray)) := ⟨_, rfl⟩
 replace H : ((spec_l1Rd_of.f k s0_0 s0_1 y163).bind fun bt166 => (some (a1, bt166.1, bt166.2))) = some (r1, r2, r3) := ry_
 have Ny163 := Aside0.mk hy_; clear hy_
 replace H := Option.bind_eq_some_iff.mp H
 obtain ⟨⟨t166, t167⟩, A30, H⟩ := H; try dsimp only at H
 have A3 := Aside0.mk A30
 clear A30
 simp only [Option.some.injEq, Prod.mk.injEq] at H
 obtain ⟨rfl, rfl, rfl⟩ := H
 go_enter Try.func64, Try.ntmps64
 go_wp2_with (first | ((with_reducible refine gate_dst (N := 4) rfl ?_); refine be_ 4 73 #[.string (⟨#[]⟩ : ByteArray), .string (⟨#[]⟩ : ByteArray)] ?_; intro gb162 hg w4 hbox hb; replace HB := Aside0.mk (below_step bs_ hb); have BK162 := Aside0.mk (hbox); have GW162 := Aside0.mk ((gk_ hg : w.heap.size ≤ gb162)); have GE162 := Aside0.mk ((Nat.le_trans HW0.out (gk_ hg : w.heap.size ≤ gb162) : w0.heap.size ≤ gb162)); replace HK := Aside0.mk (KeepBut.trans kp_ (KeepBut.of_below hb g none) (.inl rfl)); have NB0_162 := Aside0.mk ((by rw [hg]; exact Nat.ne_of_lt (IsS66.lt (show IsS66 w0 _ g s0_0 s0_1 from is66_)) : g ≠ gb162)); have NB162_0 := Aside0.mk ((by rw [hg]; exact Nat.ne_of_gt (IsS66.lt (show IsS66 w0 _ g s0_0 s0_1 from is66_)) : gb162 ≠ g)); replace HI0 := Aside0.mk (IsS66.below is66_ hb); clear hb hbox hg) | ((with_reducible refine gate_dst (N := 7) rfl ?_); refine rl_ Kd.string 9 7 ([(⟨#[]⟩ : ByteArray), (⟨#[]⟩ : ByteArray), (⟨#[83]⟩ : ByteArray), (⟨#[71, 83]⟩ : ByteArray), (⟨#[85]⟩ : ByteArray), (⟨#[71, 85]⟩ : ByteArray), (⟨#[82]⟩ : ByteArray), (⟨#[84]⟩ : ByteArray), (⟨#[67, 82, 83, 85]⟩ : ByteArray)] : List ByteArray) [.string (⟨#[]⟩ : ByteArray), .string (⟨#[]⟩ : ByteArray), .string (⟨#[83]⟩ : ByteArray), .string (⟨#[71, 83]⟩ : ByteArray), .string (⟨#[85]⟩ : ByteArray), .string (⟨#[71, 85]⟩ : ByteArray), .string (⟨#[82]⟩ : ByteArray), .string (⟨#[84]⟩ : ByteArray), .string (⟨#[67, 82, 83, 85]⟩ : ByteArray)] ?_; intro v164 w5 ho6 hb hg_ hnew_; clear hg_ hnew_; (first | rw [← Ny163.out] at ho6 | (simp only [Int.reduceToNat] at ho6; rw [← Ny163.out] at ho6)); have HO165 := Aside0.mk (Kd.R_lower ho6 ks_); replace BK162 := Aside0.mk (blk_below (bk_ BK162) hb); replace HK := Aside0.mk (KeepBut.trans kp_ (KeepBut.of_below hb g none) (.inl rfl)); replace HB := Aside0.mk (below_step bs_ hb); replace HI0 := Aside0.mk (IsS66.below is66_ hb); clear hb ho6; obtain ⟨Ao7, co7, eo7⟩ := Kd.R_slice HO165.out; subst eo7) | ((with_reducible refine gate_callee (f := 42) rfl ?_); refine gl_ 8 Try.func42 #[.pointer (some ⟨g, 0, none⟩), .slice Ao7 y163.length co7] ?_; (with_reducible refine (spec_l1Rd_of.calls k g s0_0 s0_1 _ _ y163 t166 t167 w0 _ ?side1 ?side2 ?side3 ?side4 ?side5 A3.out).mono ?_); (case side1 => exact is66_); (case side2 => exact bs_); (case side3 => exact cr_ HO165); (case side4 => exact (Kd.R_reads' HO165.out).2.1); (case side5 => exact far_slice (IsS66.own_ne HI0.out HO165.out (by decide))); rintro e w8 ⟨rfl, hi, hb, hk⟩; refine ⟨_, rfl, ?_⟩; replace BK162 := Aside0.mk (KeepBut.blk hk (g' := gb162) (o := .cells #[.string (⟨#[]⟩ : ByteArray), .string (⟨#[]⟩ : ByteArray)] 73 (0, 0)) (bk_ BK162) NB162_0.out (by simp)); replace HO165 := Aside0.mk (kaR66_ (kR_ HO165) hk); replace HK := Aside0.mk (KeepBut.trans kp_ hk (.inl rfl)); replace HB := Aside0.mk (hb); replace HI0 := Aside0.mk (hi); (try clear hb); (try clear hb2); (try clear hk); (try clear hi); have hnb9 := NB162_0.out; have hnc9 := NB0_162.out; have hcz10_0 := bc0_ BK162; have hcz10_1 := bc1_ BK162; have hfz10_0 := blk_frozen BK162.out 0; have hfz10_1 := blk_frozen BK162.out 1))
 refine bodyPost_ret (results_cell_row rfl _ _ gb162 73 #[.string a1, .string t166] (0, 0) _ rfl bq_ Try.underlying73 rfl (by kernel_rfl)) rfl ?_
 exact ⟨rfe_, is66_, bs_, kp_⟩

end Go.Proofs.Ytbopiacjioedeaa.P
