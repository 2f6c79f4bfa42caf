-- Written by a program of this session (wip/gen/gen.py) out of Lean's print of the loaded program; Lean checks it.
import Derived.Test.YtbopiacjioedeaaP0
import Derived.Test.YtbopiacjioedeaaSq2
import Derived.Test.YtbopiacjioedeaaExtPut
import Derived.Test.YtbopiacjioedeaaP2
import Derived.Test.YtbopiacjioedeaaP3
namespace Go.Proofs.Ytbopiacjioedeaa.P
open Go.RowKit Go.Proofs.YtbopiacjioedeaaW.PrintWords Go.Proofs.YtbopiacjioedeaaW.PrintLast Go.Proofs.YtbopiacjioedeaaW.PrintMore
attribute [local go_sem] max2_int min2_int max_two min_two max_three min_three max_four min_four IntKind.wrap_u8 IntKind.wrap_u32 w64_256 w64_u32
set_option maxHeartbeats 8000000
set_option maxRecDepth 100000
set_option linter.unusedVariables false
set_option linter.unusedSimpArgs false

/-! ### spec_l13Book: function 39 -/
mutual
def spec_l13Book.l0 : Nat → List ByteArray → Int → List Int → Int → List (S68) → Option ((List (S68)) × (List (S73)) × Int)
 | 0, _, _, _, _, _ => none
 | k + 1, x4, x5, x1000, x1001, x174000 => if x5 > 0 then ((spec_l13Word.f k x1000 x1001).bind fun bt179 => ((spec_l1Put.f k x4 bt179.1).bind fun t181 => (spec_l13Book.l0 k t181 (wrap64 (x5 - 1)) x1000 bt179.2 x174000))) else ((spec_l1Rd_pick.f k x1000 x1001 30).bind fun bt184 => (if bt184.1 = 0 then (spec_l13Book.l1 k x4 0 x1000 bt184.2 x174000) else (spec_l13Book.j2 k x4 x1000 bt184.2 x174000)))
def spec_l13Book.j2 : Nat → List ByteArray → List Int → Int → List (S68) → Option ((List (S68)) × (List (S73)) × Int)
 | 0, _, _, _, _ => none
 | k + 1, x4, x1000, x1001, x174000 => spec_l13Book.l2 k x4 0 x1000 x1001 x174000 ([] : List (S73))
def spec_l13Book.l2 : Nat → List ByteArray → Int → List Int → Int → List (S68) → List (S73) → Option ((List (S68)) × (List (S73)) × Int)
 | 0, _, _, _, _, _, _ => none
 | k + 1, x4, x7, x1000, x1001, x174000, x174001 => if x7 < (x4.length : Int) then (if 0 ≤ x7 then ((spec_l13Entry.f k x1000 x1001 (rdOf ByteArray.empty x4 x7)).bind fun bt193 => (if x174001.length < 4398046511104 then (spec_l13Book.l2 k x4 (wrap64 (x7 + 1)) x1000 bt193.2.2 x174000 (x174001 ++ [(⟨bt193.1, bt193.2.1⟩ : S73)])) else (none))) else (none)) else (some (x174000, x174001, x1001))
def spec_l13Book.l1 : Nat → List ByteArray → Int → List Int → Int → List (S68) → Option ((List (S68)) × (List (S73)) × Int)
 | 0, _, _, _, _, _ => none
 | k + 1, x4, x6, x1000, x1001, x174000 => if (x4.length : Int) < 24 then ((some (([(wrap64 (97 + x6)) % 256] : List Int) : List Int)).bind fun y186 => (if 1 + (strOfNums y186).size ≤ 9223372036854775807 then ((spec_l1Put.f k x4 ((⟨#[119]⟩ : ByteArray) ++ (strOfNums y186))).bind fun t189 => (spec_l13Book.l1 k t189 (wrap64 (x6 + 1)) x1000 x1001 x174000)) else (none))) else (spec_l13Book.j2 k x4 x1000 x1001 x174000)
end
def spec_l13Book.f (k : Nat) (s0_0 : List Int) (s0_1 : Int) : Option ((List (S68)) × (List (S73)) × Int) := (spec_l13Affixes.f k s0_0 s0_1).bind fun bt169 => ((spec_l1Rd_pick.f k s0_0 bt169.2 7).bind fun bt177 => (spec_l13Book.l0 k (([] : List ByteArray)) bt177.1 s0_0 bt177.2 bt169.1))
theorem spec_l13Book.mono_l : ∀ k, (∀ y0 y1 y2 y3 y4, LeO (spec_l13Book.l0 k y0 y1 y2 y3 y4) (spec_l13Book.l0 (k + 1) y0 y1 y2 y3 y4)) ∧ (∀ y0 y1 y2 y3, LeO (spec_l13Book.j2 k y0 y1 y2 y3) (spec_l13Book.j2 (k + 1) y0 y1 y2 y3)) ∧ (∀ y0 y1 y2 y3 y4 y5, LeO (spec_l13Book.l2 k y0 y1 y2 y3 y4 y5) (spec_l13Book.l2 (k + 1) y0 y1 y2 y3 y4 y5)) ∧ (∀ y0 y1 y2 y3 y4, LeO (spec_l13Book.l1 k y0 y1 y2 y3 y4) (spec_l13Book.l1 (k + 1) y0 y1 y2 y3 y4))
 | 0 => ⟨fun _ _ _ _ _ r h => by simp [spec_l13Book.l0] at h, fun _ _ _ _ r h => by simp [spec_l13Book.j2] at h, fun _ _ _ _ _ _ r h => by simp [spec_l13Book.l2] at h, fun _ _ _ _ _ r h => by simp [spec_l13Book.l1] at h⟩
 | k + 1 => by
  obtain ⟨ih0, ih1, ih2, ih3⟩ := spec_l13Book.mono_l k
  refine ⟨?_, ?_, ?_, ?_⟩
  · intro y0 y1 y2 y3 y4
    unfold spec_l13Book.l0
    have m0 := @spec_l13Affixes.mono
    have m1 := @spec_l13Entry.mono
    have m2 := @spec_l13Word.mono
    have m3 := @spec_l1Put.mono
    have m4 := @spec_l1Rd_pick.mono
    exact mn_
  · intro y0 y1 y2 y3
    unfold spec_l13Book.j2
    have m0 := @spec_l13Affixes.mono
    have m1 := @spec_l13Entry.mono
    have m2 := @spec_l13Word.mono
    have m3 := @spec_l1Put.mono
    have m4 := @spec_l1Rd_pick.mono
    exact mn_
  · intro y0 y1 y2 y3 y4 y5
    unfold spec_l13Book.l2
    have m0 := @spec_l13Affixes.mono
    have m1 := @spec_l13Entry.mono
    have m2 := @spec_l13Word.mono
    have m3 := @spec_l1Put.mono
    have m4 := @spec_l1Rd_pick.mono
    exact mn_
  · intro y0 y1 y2 y3 y4
    unfold spec_l13Book.l1
    have m0 := @spec_l13Affixes.mono
    have m1 := @spec_l13Entry.mono
    have m2 := @spec_l13Word.mono
    have m3 := @spec_l1Put.mono
    have m4 := @spec_l1Rd_pick.mono
    exact mn_
theorem spec_l13Book.mono : ∀ a0 a1 k, LeO (spec_l13Book.f k a0 a1) (spec_l13Book.f (k + 1) a0 a1) := by
 intro a0 a1 k
 obtain ⟨ih0, ih1, ih2, ih3⟩ := spec_l13Book.mono_l k
 unfold spec_l13Book.f
 have m0 := @spec_l13Affixes.mono
 have m1 := @spec_l13Entry.mono
 have m2 := @spec_l13Word.mono
 have m3 := @spec_l1Put.mono
 have m4 := @spec_l1Rd_pick.mono
 exact mn_
def spec_l13Book.T15 : Bool × List (List Nat × List Nat) := (true, [([], []), ([0], [0]), ([], []), ([], []), ([], []), ([3, 4], [3, 4]), ([5], [5]), ([2, 6], [2, 6]), ([7], [7]), ([1, 8, 7], [1, 8]), ([0, 1, 2, 3, 4, 5, 6, 7, 8, 9], []), ([10, 9, 9, 0, 1, 2, 3, 4, 5, 6, 7, 8, 9], [9, 10])])
def spec_l13Book.B15 : List Nat := [0, 1, 0, 0, 0, 24, 56, 124, 252, 511, 1023, 2047]
theorem spec_l13Book.tab15 : rtab .any (opsOf Try.f39 15) = spec_l13Book.T15 := by kernel_rfl
theorem spec_l13Book.bits15 : waitsOk spec_l13Book.T15.2 spec_l13Book.B15 = true := by kernel_rfl
theorem spec_l13Book.calls (k : Nat) (g : Nat) (s0_0 : List Int) (s0_1 : Int) (r1 : List (S68)) (r2 : List (S73)) (r3 : Int) (w0 w : World) (hI : IsS66 w0 w g s0_0 s0_1) (hB : Below w0.heap.size w0 w) (h : spec_l13Book.f k s0_0 s0_1 = some (r1, r2, r3)) :
 Calls Try.prog 39 #[.pointer (some ⟨g, 0, none⟩)] w fun e w' => ∃ v0_ v1_ : Value, e = .returned (.agg #[v0_, v1_]) ∧ Kd.R k68 68 w' w.heap.size (fun _ => True) v0_ r1 ∧ Kd.R k73 73 w' w.heap.size (fun _ => True) v1_ r2 ∧ IsS66 w0 w' g s0_0 r3 ∧ Below w0.heap.size w0 w' ∧ KeepBut w w' g none := by
 have hu26 := Try.underlying26
 have HI0 := Aside0.mk hI
 have HK := Aside0.mk (KeepBut.refl w g none)
 have HL := Aside0.mk hB.size
 clear hI
 have HW0 := Aside0.mk hB.size
 have HB := Aside0.mk hB
 clear hB
 unfold spec_l13Book.f at h; have H := h; clear h
 replace H := Option.bind_eq_some_iff.mp H
 obtain ⟨⟨t169, t172⟩, A20, H⟩ := H; try dsimp only at H
 have A2 := Aside0.mk A20
 clear A20
 obtain ⟨y174, hy_⟩ : ∃ y_ : List ByteArray, y_ = (([] : List ByteArray)) := ⟨_, rfl⟩
 replace H : ((spec_l1Rd_pick.f k s0_0 t172 7).bind fun bt177 => (spec_l13Book.l0 k y174 bt177.1 s0_0 bt177.2 t169)) = some (r1, r2, r3) := ry_
 have Ny174 := Aside0.mk hy_; clear hy_
 replace H := Option.bind_eq_some_iff.mp H
 obtain ⟨⟨t177, t178⟩, A30, H⟩ := H; try dsimp only at H
 have A3 := Aside0.mk A30
 clear A30
 have H' := Aside0.mk H; clear H
 go_enter Try.func39, Try.ntmps39
 go_wp2_with (first | ((with_reducible refine gate_dst (N := 2) rfl ?_); refine be_ 2 26 #[.slice none 0 0, .slice none 0 0] ?_; intro gb168 hg w4 hbox hb; replace HB := Aside0.mk (below_step bs_ hb); have BK168 := Aside0.mk (hbox); have GW168 := Aside0.mk ((gk_ hg : w.heap.size ≤ gb168)); have GE168 := Aside0.mk ((Nat.le_trans HW0.out (gk_ hg : w.heap.size ≤ gb168) : w0.heap.size ≤ gb168)); replace HK := Aside0.mk (KeepBut.trans kp_ (KeepBut.of_below hb g none) (.inl rfl)); have NB0_168 := Aside0.mk ((by rw [hg]; exact Nat.ne_of_lt (IsS66.lt (show IsS66 w0 _ g s0_0 s0_1 from is66_)) : g ≠ gb168)); have NB168_0 := Aside0.mk ((by rw [hg]; exact Nat.ne_of_gt (IsS66.lt (show IsS66 w0 _ g s0_0 s0_1 from is66_)) : gb168 ≠ g)); replace HI0 := Aside0.mk (IsS66.below is66_ hb); clear hb hbox hg) | ((with_reducible refine gate_callee (f := 62) rfl ?_); refine gl_ 9 Try.func62 #[.pointer (some ⟨g, 0, none⟩)] ?_; (with_reducible refine (spec_l13Affixes.calls k g s0_0 s0_1 t169 t172 w0 _ ?side1 ?side2 A2.out).mono ?_); (case side1 => exact is66_); (case side2 => exact bs_); rintro e w5 ⟨v170, rfl, ho0, hi, hb, hk⟩; refine ⟨_, rfl, ?_⟩; replace BK168 := Aside0.mk (KeepBut.blk hk (g' := gb168) (o := .cells #[.slice none 0 0, .slice none 0 0] 26 (0, 0)) (bk_ BK168) NB168_0.out (by simp)); have HO171 := Aside0.mk (Kd.R_lower ho0 ks_); replace HK := Aside0.mk (KeepBut.trans kp_ hk (.inl rfl)); replace HB := Aside0.mk (hb); replace HI0 := Aside0.mk (hi); (try clear hb); (try clear hb2); (try clear hk); (try clear hi); (try clear ho0); obtain ⟨Ao6, co6, eo6⟩ := Kd.R_slice HO171.out; subst eo6) | ((with_reducible refine gate_dst (N := 3) rfl ?_); refine be_ 3 26 #[.slice none 0 0, .slice none 0 0] ?_; intro gb173 hg w7 hbox hb; replace HO171 := Aside0.mk (Kd.R_below (kR_ HO171) hb); replace HB := Aside0.mk (below_step bs_ hb); have BK173 := Aside0.mk (hbox); have GW173 := Aside0.mk ((gk_ hg : w.heap.size ≤ gb173)); have GE173 := Aside0.mk ((Nat.le_trans HW0.out (gk_ hg : w.heap.size ≤ gb173) : w0.heap.size ≤ gb173)); replace HK := Aside0.mk (KeepBut.trans kp_ (KeepBut.of_below hb g none) (.inl rfl)); have NB168_173 := Aside0.mk ((by rw [hg]; exact Nat.ne_of_lt (blk_lt (bk_ BK168)) : gb168 ≠ gb173)); have NB173_168 := Aside0.mk ((by rw [hg]; exact Nat.ne_of_gt (blk_lt (bk_ BK168)) : gb173 ≠ gb168)); replace BK168 := Aside0.mk (blk_below (bk_ BK168) hb); have NB0_173 := Aside0.mk ((by rw [hg]; exact Nat.ne_of_lt (IsS66.lt (show IsS66 w0 _ g s0_0 t172 from is66_)) : g ≠ gb173)); have NB173_0 := Aside0.mk ((by rw [hg]; exact Nat.ne_of_gt (IsS66.lt (show IsS66 w0 _ g s0_0 t172 from is66_)) : gb173 ≠ g)); replace HI0 := Aside0.mk (IsS66.below is66_ hb); clear hb hbox hg; have hnb8 := NB173_168.out; have hnc8 := NB168_173.out; have hnb9 := NB173_0.out; have hnc9 := NB0_173.out; have hcz10_0 := bc0_ BK173; have hcz10_1 := bc1_ BK173; have hfz10_0 := blk_frozen BK173.out 0; have hfz10_1 := blk_frozen BK173.out 1) | ((with_reducible refine gate_dst (N := 11) rfl ?_); refine rl_ Kd.string 9 11 ([] : List ByteArray) [] ?_; intro v175 w11 ho12 hb hg_ hnew_; clear hg_ hnew_; (first | rw [← Ny174.out] at ho12 | (simp only [Int.reduceToNat] at ho12; rw [← Ny174.out] at ho12)); replace HO171 := Aside0.mk (Kd.R_below (by (with_reducible repeat (first | apply Kd.R_alloc | apply Kd.R_drewN | apply Kd.R_drew)); exact (Kd.R_mono (Kd.R_far (p := ⟨gb173, 1, none⟩) (Kd.R_far (p := ⟨gb173, 0, none⟩) (Kd.R_types HO171.out BK173.out (by decide)) (fun _ hk => hk.2) (.slice Ao6 t169.length co6)) (fun _ hk => hk.2) (.slice none 0 0)) (fun _ h_ => h_.1))) hb); have HO176 := Aside0.mk (Kd.R_lower ho12 ks_); replace BK168 := Aside0.mk (blk_below (g := gb168) (o := .cells #[.slice none 0 0, .slice none 0 0] 26 (0, 0)) bq_ hb); replace BK173 := Aside0.mk (blk_below (g := gb173) (o := .cells #[.slice Ao6 t169.length co6, .slice none 0 0] 26 (0, 0)) bq_ hb); replace HK := Aside0.mk (KeepBut.trans kp_ (KeepBut.of_below hb g none) (.inl rfl)); replace HB := Aside0.mk (below_step bs_ hb); replace HI0 := Aside0.mk (IsS66.below (show IsS66 w0 ((w7.setCell ⟨gb173, 0, none⟩ (.slice Ao6 t169.length co6)).setCell ⟨gb173, 1, none⟩ (.slice none 0 0)) g s0_0 t172 from is66_) hb); clear hb ho12) | ((with_reducible refine gate_callee (f := 20) rfl ?_); refine gl_ 13 Try.func20 #[.pointer (some ⟨g, 0, none⟩), .int .i64 7] ?_; (with_reducible refine (spec_l1Rd_pick.calls k g s0_0 t172 7 t177 t178 w0 _ ?side1 ?side2 A3.out).mono ?_); (case side1 => exact is66_); (case side2 => exact bs_); rintro e w13 ⟨rfl, hi, hb, hk⟩; refine ⟨_, rfl, ?_⟩; replace BK168 := Aside0.mk (KeepBut.blk hk (g' := gb168) (o := .cells #[.slice none 0 0, .slice none 0 0] 26 (0, 0)) (bk_ BK168) NB168_0.out (by simp)); replace HO171 := Aside0.mk (kaR66_ (kR_ HO171) hk); replace BK173 := Aside0.mk (KeepBut.blk hk (g' := gb173) (o := .cells #[.slice Ao6 t169.length co6, .slice none 0 0] 26 (0, 0)) (bk_ BK173) NB173_0.out (by simp)); replace HO176 := Aside0.mk (kaR66_ (kR_ HO176) hk); replace HK := Aside0.mk (KeepBut.trans kp_ hk (.inl rfl)); replace HB := Aside0.mk (hb); replace HI0 := Aside0.mk (hi); (try clear hb); (try clear hb2); (try clear hk); (try clear hi)))
 go_loopg [4, 5] k (fun kq v4 v5 w' => ∃ (x4_1 : List ByteArray) (x5_1 : Int) (x1001_1 : Int), v5 = .int .i64 x5_1 ∧ Aside0 (spec_l13Book.l0 kq x4_1 x5_1 s0_0 x1001_1 t169 = some (r1, r2, r3)) ∧ Aside0 (kq ≤ k) ∧ Aside0 (Kd.R Kd.string 9 w' w.heap.size (fun _ => True) v4 x4_1) ∧ Aside0 (Kd.R k68 68 w' w.heap.size (fun _ => True) (.slice Ao6 t169.length co6) t169) ∧ Aside0 (w'.heap[gb168]? = some (.cells #[(.slice none 0 0), (.slice none 0 0)] 26 (0, 0))) ∧ Aside0 (w'.heap[gb173]? = some (.cells #[(.slice Ao6 t169.length co6), (.slice none 0 0)] 26 (0, 0))) ∧ Aside0 (IsS66 w0 w' g s0_0 x1001_1) ∧ Aside0 (KeepBut w w' g none) ∧ Aside0 (Below w0.heap.size w0 w'))
 case atStart => exact ⟨(y174), (t177), (t178), rf_, H', ⟨Nat.le_refl _⟩, ⟨kR_ HO176⟩, ⟨kR_ HO171⟩, ⟨by (with_reducible repeat (first | refine blk_drewN ?_ _ | refine blk_drew ?_ | refine blk_alloc ?_ _)); exact BK168.out⟩, ⟨by (with_reducible repeat (first | refine blk_drewN ?_ _ | refine blk_drew ?_ | refine blk_alloc ?_ _)); exact BK173.out⟩, ⟨is66_⟩, ⟨kp_⟩, ⟨bs_⟩⟩
 case round =>
  clear H'
  (try clear c2);(try clear p2);(try clear c3);(try clear c6);(try clear c8);(try clear c9);(try clear hcz10_0);(try clear hcz10_1);(try clear hfz10_0);(try clear hfz10_1)
  obtain ⟨x4_1, x5_1, x1001_1, rfl, HA, HK1, HO_4, HO_174000, BK168, BK173, HI0, HK, HB⟩ := hrel
  cases gk with
  | zero => exact absurd HA.out (by simp [spec_l13Book.l0])
  | succ k1 =>
   have H := HA.out
   clear HA
   simp only [spec_l13Book.l0] at H
   replace H := itcc_ H; rcases H with ⟨c14, H⟩ | ⟨c14, H⟩
   · have c14b0 : decide (0 < x5_1) = true := decide_eq_true c14
     clear c14
     replace H := Option.bind_eq_some_iff.mp H
     obtain ⟨⟨t179, t180⟩, A150, H⟩ := H; try dsimp only at H
     have A15 := Aside0.mk A150
     clear A150
     replace H := Option.bind_eq_some_iff.mp H
     obtain ⟨t181, A160, H⟩ := H; try dsimp only at H
     have A16 := Aside0.mk A160
     clear A160
     have H' := Aside0.mk H; clear H
     go_wp2_with (first | ((with_reducible refine gate_callee (f := 63) rfl ?_); refine gl_ 20 Try.func63 #[.pointer (some ⟨g, 0, none⟩)] ?_; (with_reducible refine (spec_l13Word.calls k1 g s0_0 x1001_1 t179 t180 w0 _ ?side1 ?side2 A15.out).mono ?_); (case side1 => exact is66_); (case side2 => exact bs_); rintro e w17 ⟨rfl, hi, hb, hk⟩; refine ⟨_, rfl, ?_⟩; replace HO_4 := Aside0.mk (kaR66_ (kR_ HO_4) hk); replace HO_174000 := Aside0.mk (kaR66_ (kR_ HO_174000) hk); replace BK168 := Aside0.mk (KeepBut.blk hk (g' := gb168) (o := .cells #[.slice none 0 0, .slice none 0 0] 26 (0, 0)) (bk_ BK168) NB168_0.out (by simp)); replace BK173 := Aside0.mk (KeepBut.blk hk (g' := gb173) (o := .cells #[.slice Ao6 t169.length co6, .slice none 0 0] 26 (0, 0)) (bk_ BK173) NB173_0.out (by simp)); replace HK := Aside0.mk (KeepBut.trans kp_ hk (.inl rfl)); replace HB := Aside0.mk (hb); replace HI0 := Aside0.mk (hi); (try clear hb); (try clear hb2); (try clear hk); (try clear hi); obtain ⟨Ao18, co18, eo18⟩ := Kd.R_slice HO_4.out; subst eo18) | ((with_reducible refine gate_callee (f := 54) rfl ?_); refine gl_ 21 Try.func54 #[.slice Ao18 x4_1.length co18, .string t179] ?_; (with_reducible refine (spec_l1Put.calls k1 (fun k_ => some k_ = (.slice Ao18 x4_1.length co18 : Value).ownBlock) (.slice Ao18 x4_1.length co18) x4_1 t179 t181 w0 _ ?side1 ?side2 A16.out).mono ?_); (case side1 => exact bs_); (case side2 => exact Kd.R_lower (Kd.R_tight rfl HO_4.out) HL.out); rintro e w19 ⟨v182, rfl, ho0, hb, hkp⟩; refine ⟨_, rfl, ?_⟩; replace HO_174000 := Aside0.mk (Kd.R_mono (ok' := fun k_ => True) (Kd.R_keptB ((Kd.R_apart' HO_174000.out (Kd.R_typed HO_4.out) (by decide))) hkp (fun k_ hk_ hs_ => (hk_.2) hs_)) (fun k_ hk_ => trivial)); replace BK168 := Aside0.mk (blk_kept (bk_ BK168) hkp (fun hs_ => (fun e_ => (Kd.R_ne HO_4.out BK168.out (by decide)) e_) hs_)); replace BK173 := Aside0.mk (blk_kept (bk_ BK173) hkp (fun hs_ => (fun e_ => (Kd.R_ne HO_4.out BK173.out (by decide)) e_) hs_)); replace HI0 := Aside0.mk (IsS66.kept is66_ hkp (fun hs_ => (fun e_ => (IsS66.own_ne HI0.out HO_4.out (by decide)) e_) hs_)); have HO183 := Aside0.mk (Kd.R_mono (ok' := fun k_ => True) (Kd.R_raise (d := Kd.string) (b := w0.heap.size) (b' := w.heap.size) (fun _ _ _ _ h_ => h_) ho0 (fun k_ e_ => Or.elim (ho0.1 k_ e_) (fun hs_ => (fun e_ => Kd.R_base HO_4.out k_ e_.symm) hs_) (fun hn_ => Nat.le_trans ks_ hn_))) (fun k_ hk_ => trivial)); replace HK := Aside0.mk (Kept.keepG kp_ hkp (fun k_ hs_ => (fun e_ => .inr (Kd.R_base HO_4.out k_ e_.symm)) hs_)); replace HB := Aside0.mk (hb); clear HO_4; (try clear hb); (try clear hkp); (try clear ho0)))
     go_roundg k1
     case measure => have := HK1.out; omega
     case rel => exact ⟨(t181), (wrap64 (x5_1 - 1)), (t180), rf_, H', ⟨by have := HK1.out; omega⟩, ⟨kR_ HO183⟩, ⟨kR_ HO_174000⟩, ⟨by (with_reducible repeat (first | refine blk_drewN ?_ _ | refine blk_drew ?_ | refine blk_alloc ?_ _)); exact BK168.out⟩, ⟨by (with_reducible repeat (first | refine blk_drewN ?_ _ | refine blk_drew ?_ | refine blk_alloc ?_ _)); exact BK173.out⟩, ⟨is66_⟩, ⟨kp_⟩, ⟨bs_⟩⟩
   have c14b0 : decide (0 < x5_1) = false := decide_eq_false c14
   clear c14
   replace H := Option.bind_eq_some_iff.mp H
   obtain ⟨⟨t184, t185⟩, A200, H⟩ := H; try dsimp only at H
   have A20 := Aside0.mk A200
   clear A200
   have HC21 := Aside0.mk H
   clear H
   go_upto_if 24 with (first | ((with_reducible refine gate_callee (f := 20) rfl ?_); refine gl_ 23 Try.func20 #[.pointer (some ⟨g, 0, none⟩), .int .i64 30] ?_; (with_reducible refine (spec_l1Rd_pick.calls k1 g s0_0 x1001_1 30 t184 t185 w0 _ ?side1 ?side2 A20.out).mono ?_); (case side1 => exact is66_); (case side2 => exact bs_); rintro e w22 ⟨rfl, hi, hb, hk⟩; refine ⟨_, rfl, ?_⟩; replace HO_4 := Aside0.mk (kaR66_ (kR_ HO_4) hk); replace HO_174000 := Aside0.mk (kaR66_ (kR_ HO_174000) hk); replace BK168 := Aside0.mk (KeepBut.blk hk (g' := gb168) (o := .cells #[.slice none 0 0, .slice none 0 0] 26 (0, 0)) (bk_ BK168) NB168_0.out (by simp)); replace BK173 := Aside0.mk (KeepBut.blk hk (g' := gb173) (o := .cells #[.slice Ao6 t169.length co6, .slice none 0 0] 26 (0, 0)) (bk_ BK173) NB173_0.out (by simp)); replace HK := Aside0.mk (KeepBut.trans kp_ hk (.inl rfl)); replace HB := Aside0.mk (hb); replace HI0 := Aside0.mk (hi); (try clear hb); (try clear hb2); (try clear hk); (try clear hi)))
   (try simp only [Act.put, List.setIfInBounds_toArray, List.set_cons_zero, List.set_cons_succ])
   go_cut [4] (fun v4 wc => ∃ (kq : Nat) (x4_20 : List ByteArray), Aside0 (spec_l13Book.j2 kq x4_20 s0_0 t185 t169 = some (r1, r2, r3)) ∧ Aside0 (kq ≤ k1) ∧ Aside0 (Kd.R Kd.string 9 wc w.heap.size (fun _ => True) v4 x4_20) ∧ Aside0 (Kd.R k68 68 wc w.heap.size (fun _ => True) (.slice Ao6 t169.length co6) t169) ∧ Aside0 (wc.heap[gb168]? = some (.cells #[(.slice none 0 0), (.slice none 0 0)] 26 (0, 0))) ∧ Aside0 (wc.heap[gb173]? = some (.cells #[(.slice Ao6 t169.length co6), (.slice none 0 0)] 26 (0, 0))) ∧ Aside0 (IsS66 w0 wc g s0_0 t185) ∧ Aside0 (KeepBut w wc g none) ∧ Aside0 (Below w0.heap.size w0 wc))
   case first =>
    have H := HC21.out
    clear HC21
    replace H := iucc_ H; rcases H with ⟨c23, H⟩ | ⟨c23, H⟩
    · have c23b0 : (t184 == 0) = false := beq_eq_false_iff_ne.mpr c23
      have c23b1 : (t184 != 0) = true := bne_iff_ne.mpr c23
      (first | rw [c23b0] | (simp only [i64_w, i32_w]; rw [c23b0]) | skip)
      have H' := Aside0.mk H; clear H
      go_wp2
      go_meet
      case rel => exact ⟨_, (x4_1), H', ⟨by have := HK1.out; first | omega | exact Nat.le_refl _⟩, ⟨kR_ HO_4⟩, ⟨kR_ HO_174000⟩, ⟨by (with_reducible repeat (first | refine blk_drewN ?_ _ | refine blk_drew ?_ | refine blk_alloc ?_ _)); exact BK168.out⟩, ⟨by (with_reducible repeat (first | refine blk_drewN ?_ _ | refine blk_drew ?_ | refine blk_alloc ?_ _)); exact BK173.out⟩, ⟨is66_⟩, ⟨kp_⟩, ⟨bs_⟩⟩
    have c23b0 : (t184 == 0) = true := beq_iff_eq.mpr c23
    have c23b1 : (t184 != 0) = false := bne_eq_false_iff_eq.mpr c23
    clear c23
    (first | rw [c23b0] | (simp only [i64_w, i32_w]; rw [c23b0]) | skip)
    have H' := Aside0.mk H; clear H
    go_wp2
    go_loopg [4, 6] k1 (fun kq v4 v6 w' => ∃ (x4_2 : List ByteArray) (x6_2 : Int), v6 = .int .i64 x6_2 ∧ Aside0 (spec_l13Book.l1 kq x4_2 x6_2 s0_0 t185 t169 = some (r1, r2, r3)) ∧ Aside0 (kq ≤ k1) ∧ Aside0 (Kd.R Kd.string 9 w' w.heap.size (fun _ => True) v4 x4_2) ∧ Aside0 (Kd.R k68 68 w' w.heap.size (fun _ => True) (.slice Ao6 t169.length co6) t169) ∧ Aside0 (w'.heap[gb168]? = some (.cells #[(.slice none 0 0), (.slice none 0 0)] 26 (0, 0))) ∧ Aside0 (w'.heap[gb173]? = some (.cells #[(.slice Ao6 t169.length co6), (.slice none 0 0)] 26 (0, 0))) ∧ Aside0 (IsS66 w0 w' g s0_0 t185) ∧ Aside0 (KeepBut w w' g none) ∧ Aside0 (Below w0.heap.size w0 w'))
    case atStart => exact ⟨(x4_1), (0), rf_, H', ⟨Nat.le_refl _⟩, ⟨kR_ HO_4⟩, ⟨kR_ HO_174000⟩, ⟨by (with_reducible repeat (first | refine blk_drewN ?_ _ | refine blk_drew ?_ | refine blk_alloc ?_ _)); exact BK168.out⟩, ⟨by (with_reducible repeat (first | refine blk_drewN ?_ _ | refine blk_drew ?_ | refine blk_alloc ?_ _)); exact BK173.out⟩, ⟨is66_⟩, ⟨kp_⟩, ⟨bs_⟩⟩
    case round =>
     clear H'
     (try clear c1);(try clear c2);(try clear p2);(try clear c3);(try clear c5);(try clear c6);(try clear p6);(try clear c8);(try clear c9);(try clear c14);(try clear c14b0);(try clear c20);(try clear c23);(try clear c23b0);(try clear c23b1);(try clear hcz10_0);(try clear hcz10_1);(try clear hfz10_0);(try clear hfz10_1);(try clear p2)
     obtain ⟨x4_2, x6_2, rfl, HA, HK2, HO_4, HO_174000, BK168, BK173, HI0, HK, HB⟩ := hrel
     cases gk with
     | zero => exact absurd HA.out (by simp [spec_l13Book.l1])
     | succ k2 =>
      have H := HA.out
      clear HA
      simp only [spec_l13Book.l1] at H
      replace H := iucc_ H; rcases H with ⟨c24, H⟩ | ⟨c24, H⟩
      · have c24b0 : decide ((x4_2.length : Int) < 24) = false := decide_eq_false c24
        have c24b1 : decide (x4_2.length < 24) = false := decide_eq_false (by omega)
        clear c24
        have H' := Aside0.mk H; clear H
        obtain ⟨Ao32, co32, eo32⟩ := Kd.R_slice HO_4.out
        subst eo32
        go_wp2
        go_meet
        case rel => exact ⟨_, (x4_2), H', ⟨by have := HK1.out; have := HK2.out; first | omega | exact Nat.le_refl _⟩, ⟨kR_ HO_4⟩, ⟨kR_ HO_174000⟩, ⟨by (with_reducible repeat (first | refine blk_drewN ?_ _ | refine blk_drew ?_ | refine blk_alloc ?_ _)); exact BK168.out⟩, ⟨by (with_reducible repeat (first | refine blk_drewN ?_ _ | refine blk_drew ?_ | refine blk_alloc ?_ _)); exact BK173.out⟩, ⟨is66_⟩, ⟨kp_⟩, ⟨bs_⟩⟩
      have c24b0 : decide ((x4_2.length : Int) < 24) = true := decide_eq_true c24
      have c24b1 : decide (x4_2.length < 24) = true := decide_eq_true (by omega)
      clear c24
      obtain ⟨y186, hy_⟩ : ∃ y_ : List Int, y_ = (([(wrap64 (97 + x6_2)) % 256] : List Int)) := ⟨_, rfl⟩
      replace H : (if 1 + (strOfNums y186).size ≤ 9223372036854775807 then ((spec_l1Put.f k2 x4_2 ((⟨#[119]⟩ : ByteArray) ++ (strOfNums y186))).bind fun t189 => (spec_l13Book.l1 k2 t189 (wrap64 (x6_2 + 1)) s0_0 t185 t169)) else (none)) = some (r1, r2, r3) := ry_
      have Ny186 := Aside0.mk hy_; clear hy_
      replace H := inc_ H; obtain ⟨c25, H⟩ := H
      have c25b0 := eq_true c25
      have c25b1 : decide (1 + (strOfNums y186).size ≤ 9223372036854775807) = true := decide_eq_true c25
      try have c25b2 : (9223372036854775807 < 1 + (strOfNums y186).size) = False := eq_false (Nat.not_lt.2 c25)
      replace H := Option.bind_eq_some_iff.mp H
      obtain ⟨t189, A260, H⟩ := H; try dsimp only at H
      have A26 := Aside0.mk A260
      clear A260
      have H' := Aside0.mk H; clear H
      obtain ⟨Ao27, co27, eo27⟩ := Kd.R_slice HO_4.out
      subst eo27
      go_wp2_with (first | ((with_reducible refine gate_dst (N := 34) rfl ?_); refine rl_ (Kd.int .u8) 5 34 ([(wrap64 (97 + x6_2)) % 256] : List Int) [.int .u8 ((wrap64 (97 + x6_2)) % 256)] ?_; intro v187 w28 ho29 hb hg_ hnew_; clear hg_ hnew_; (first | rw [← Ny186.out] at ho29 | (simp only [Int.reduceToNat] at ho29; rw [← Ny186.out] at ho29)); replace HO_4 := Aside0.mk (Kd.R_below (kR_ HO_4) hb); replace HO_174000 := Aside0.mk (Kd.R_below (kR_ HO_174000) hb); have HO188 := Aside0.mk (Kd.R_lower ho29 ks_); replace BK168 := Aside0.mk (blk_below (bk_ BK168) hb); replace BK173 := Aside0.mk (blk_below (bk_ BK173) hb); replace HK := Aside0.mk (KeepBut.trans kp_ (KeepBut.of_below hb g none) (.inl rfl)); replace HB := Aside0.mk (below_step bs_ hb); replace HI0 := Aside0.mk (IsS66.below is66_ hb); clear hb ho29; have hcv30 := own_string (P := Try.prog) Try.underlying22 Try.underlying5 Try.underlying9 (Kd.own_of_R HO188.out)) | ((with_reducible refine gate_callee (f := 54) rfl ?_); refine gl_ 37 Try.func54 #[.slice Ao27 x4_2.length co27, .string ((⟨#[119]⟩ : ByteArray) ++ (strOfNums y186))] ?_; (with_reducible refine (spec_l1Put.calls k2 (fun k_ => some k_ = (.slice Ao27 x4_2.length co27 : Value).ownBlock) (.slice Ao27 x4_2.length co27) x4_2 ((⟨#[119]⟩ : ByteArray) ++ (strOfNums y186)) t189 w0 _ ?side1 ?side2 A26.out).mono ?_); (case side1 => exact bs_); (case side2 => exact Kd.R_lower (Kd.R_tight rfl HO_4.out) HL.out); rintro e w31 ⟨v190, rfl, ho0, hb, hkp⟩; refine ⟨_, rfl, ?_⟩; replace HO_174000 := Aside0.mk (Kd.R_mono (ok' := fun k_ => True) (Kd.R_keptB ((Kd.R_apart' HO_174000.out (Kd.R_typed HO_4.out) (by decide))) hkp (fun k_ hk_ hs_ => (hk_.2) hs_)) (fun k_ hk_ => trivial)); replace BK168 := Aside0.mk (blk_kept (bk_ BK168) hkp (fun hs_ => (fun e_ => (Kd.R_ne HO_4.out BK168.out (by decide)) e_) hs_)); replace BK173 := Aside0.mk (blk_kept (bk_ BK173) hkp (fun hs_ => (fun e_ => (Kd.R_ne HO_4.out BK173.out (by decide)) e_) hs_)); replace HI0 := Aside0.mk (IsS66.kept is66_ hkp (fun hs_ => (fun e_ => (IsS66.own_ne HI0.out HO_4.out (by decide)) e_) hs_)); replace HO188 := Aside0.mk (Kd.R_mono (ok' := fun k_ => True) (Kd.R_keptB ((Kd.R_apart' HO188.out (Kd.R_typed HO_4.out) (by decide))) hkp (fun k_ hk_ hs_ => (hk_.2) hs_)) (fun k_ hk_ => trivial)); have HO191 := Aside0.mk (Kd.R_mono (ok' := fun k_ => True) (Kd.R_raise (d := Kd.string) (b := w0.heap.size) (b' := w.heap.size) (fun _ _ _ _ h_ => h_) ho0 (fun k_ e_ => Or.elim (ho0.1 k_ e_) (fun hs_ => (fun e_ => Kd.R_base HO_4.out k_ e_.symm) hs_) (fun hn_ => Nat.le_trans ks_ hn_))) (fun k_ hk_ => trivial)); replace HK := Aside0.mk (Kept.keepG kp_ hkp (fun k_ hs_ => (fun e_ => .inr (Kd.R_base HO_4.out k_ e_.symm)) hs_)); replace HB := Aside0.mk (hb); clear HO_4; (try clear hb); (try clear hkp); (try clear ho0)))
      go_roundg k2
      case measure => have := HK1.out; have := HK2.out; omega
      case rel => exact ⟨(t189), (wrap64 (x6_2 + 1)), rf_, H', ⟨by have := HK1.out; have := HK2.out; omega⟩, ⟨kR_ HO191⟩, ⟨kR_ HO_174000⟩, ⟨by (with_reducible repeat (first | refine blk_drewN ?_ _ | refine blk_drew ?_ | refine blk_alloc ?_ _)); exact BK168.out⟩, ⟨by (with_reducible repeat (first | refine blk_drewN ?_ _ | refine blk_drew ?_ | refine blk_alloc ?_ _)); exact BK173.out⟩, ⟨is66_⟩, ⟨kp_⟩, ⟨bs_⟩⟩
   case rest =>
    clear HC21
    (try clear c1);(try clear c2);(try clear p2);(try clear c3);(try clear hcv3);(try clear c5);(try clear c6);(try clear p6);(try clear c8);(try clear c9);(try clear c14);(try clear c14b0);(try clear c20);(try clear c23);(try clear c23b0);(try clear c23b1);(try clear c24);(try clear c24b0);(try clear c24b1);(try clear c25);(try clear c25b0);(try clear c25b1);(try clear c25b2);(try clear hcv30);(try clear hcz10_0);(try clear hcz10_1);(try clear hfz10_0);(try clear hfz10_1);(try clear p2);(try clear p6)
    obtain ⟨kq, x4_20, HA, HJ20, HO_4, HO_174000, BK168, BK173, HI0, HK, HB⟩ := hcut
    cases kq with
    | zero => exact absurd HA.out (by simp [spec_l13Book.j2])
    | succ kj20 =>
     have H := HA.out
     clear HA
     simp only [spec_l13Book.j2] at H
     have H' := Aside0.mk H; clear H
     go_wp2
     go_loopg [7] kj20 (fun kq v7 w' => ∃ (x7_3 : Int) (x1001_3 : Int) (x174001_3 : List (S73)) (u174001 : Value), v7 = .int .i64 x7_3 ∧ Aside0 (spec_l13Book.l2 kq x4_20 x7_3 s0_0 x1001_3 t169 x174001_3 = some (r1, r2, r3)) ∧ Aside0 (kq ≤ kj20) ∧ Aside0 (Kd.R Kd.string 9 w' w.heap.size (fun _ => True) u4 x4_20) ∧ Aside0 (Kd.R k68 68 w' w.heap.size (fun _ => True) (.slice Ao6 t169.length co6) t169) ∧ Aside0 (Kd.R k73 73 w' w.heap.size (fun _ => True) u174001 x174001_3) ∧ Aside0 (w'.heap[gb168]? = some (.cells #[(.slice none 0 0), (.slice none 0 0)] 26 (0, 0))) ∧ Aside0 (w'.heap[gb173]? = some (.cells #[(.slice Ao6 t169.length co6), u174001] 26 (0, 0))) ∧ Aside0 (IsS66 w0 w' g s0_0 x1001_3) ∧ Aside0 (KeepBut w w' g none) ∧ Aside0 (Below w0.heap.size w0 w'))
     case atStart => exact ⟨(0), (t185), (([] : List (S73))), (.slice none 0 0), rf_, H', ⟨Nat.le_refl _⟩, ⟨kR_ HO_4⟩, ⟨kR_ HO_174000⟩, ⟨by first | exact Kd.R_nil _ _ _ _ _ | exact Kd.N_nil _ _ _ _ _ | exact Kd.V_nil _ _ _ _ _ | exact Kd.Q_nil _ _ _ _ _ | exact Kd.S_nil _ _ _ _ _⟩, ⟨by (with_reducible repeat (first | refine blk_drewN ?_ _ | refine blk_drew ?_ | refine blk_alloc ?_ _)); exact BK168.out⟩, ⟨by (with_reducible repeat (first | refine blk_drewN ?_ _ | refine blk_drew ?_ | refine blk_alloc ?_ _)); exact BK173.out⟩, ⟨is66_⟩, ⟨kp_⟩, ⟨bs_⟩⟩
     case round =>
      clear H'
      (try clear c1);(try clear c2);(try clear p2);(try clear c3);(try clear hcv3);(try clear c5);(try clear c6);(try clear p6);(try clear c8);(try clear c9);(try clear c14);(try clear c14b0);(try clear c20);(try clear c23);(try clear c23b0);(try clear c23b1);(try clear c24);(try clear c24b0);(try clear c24b1);(try clear c25);(try clear c25b0);(try clear c25b1);(try clear c25b2);(try clear hcv30);(try clear hcz10_0);(try clear hcz10_1);(try clear hfz10_0);(try clear hfz10_1);(try clear p2);(try clear p6)
      obtain ⟨x7_3, x1001_3, x174001_3, u174001, rfl, HA, HK3, HO_4, HO_174000, HO_174001, BK168, BK173, HI0, HK, HB⟩ := hrel
      cases gk with
      | zero => exact absurd HA.out (by simp [spec_l13Book.l2])
      | succ k3 =>
       have H := HA.out
       clear HA
       simp only [spec_l13Book.l2] at H
       replace H := iudd_ H; rcases H with ⟨c33b0, H⟩ | ⟨c33b0, H⟩
       · simp only [Option.some.injEq, Prod.mk.injEq] at H
         obtain ⟨rfl, rfl, rfl⟩ := H
         obtain ⟨Ao43, co43, eo43⟩ := Kd.R_slice HO_4.out
         subst eo43
         have hnb44 := NB173_168.out
         have hnc44 := NB168_173.out
         have hnb45 := NB173_0.out
         have hnc45 := NB0_173.out
         have hcz46_0 := bc0_ BK173
         have hcz46_1 := bc1_ BK173
         have hfz46_0 := blk_frozen BK173.out 0
         have hfz46_1 := blk_frozen BK173.out 1
         have hnb47 := NB168_0.out
         have hnc47 := NB0_168.out
         have hcz48_0 := bc0_ BK168
         have hcz48_1 := bc1_ BK168
         have hfz48_0 := blk_frozen BK168.out 0
         have hfz48_1 := blk_frozen BK168.out 1
         obtain ⟨Ao49, co49, eo49⟩ := Kd.R_slice HO_174001.out
         subst eo49
         go_wp2
         refine bodyPost_ret (results_cell_row rfl _ _ gb168 26 #[.slice Ao6 t169.length co6, .slice Ao49 x174001_3.length co49] (0, 0) _ rfl bq_ Try.underlying26 rfl (by kernel_rfl)) rfl ?_
         exact ⟨_, _, rfe_, by (with_reducible repeat (first | apply Kd.R_alloc | apply Kd.R_drewN | apply Kd.R_drew)); exact Kd.R_mono (Kd.R_far (p := ⟨gb168, 1, none⟩) (Kd.R_far (p := ⟨gb168, 0, none⟩) (Kd.R_types HO_174000.out BK168.out (by decide)) (fun _ hk => hk.2) (.slice Ao6 t169.length co6)) (fun _ hk => hk.2) (.slice Ao49 x174001_3.length co49)) (fun _ hk => trivial), by (with_reducible repeat (first | apply Kd.R_alloc | apply Kd.R_drewN | apply Kd.R_drew)); exact Kd.R_mono (Kd.R_far (p := ⟨gb168, 1, none⟩) (Kd.R_far (p := ⟨gb168, 0, none⟩) (Kd.R_types HO_174001.out BK168.out (by decide)) (fun _ hk => hk.2) (.slice Ao6 t169.length co6)) (fun _ hk => hk.2) (.slice Ao49 x174001_3.length co49)) (fun _ hk => trivial), is66_, bs_, kp_⟩
       replace H := ind_ H; obtain ⟨c34b0, H⟩ := H
       replace H := Option.bind_eq_some_iff.mp H
       obtain ⟨⟨t193, t194, t195⟩, A350, H⟩ := H; try dsimp only at H
       have A35 := Aside0.mk A350
       clear A350
       replace H := inc_ H; obtain ⟨c36, H⟩ := H
       have LMc36 := Aside0.mk c36
       clear c36
       obtain ⟨y196, hy_⟩ : ∃ y_ : List (S73), y_ = (x174001_3 ++ [(⟨t193, t194⟩ : S73)]) := ⟨_, rfl⟩
       replace H : (spec_l13Book.l2 k3 x4_20 (wrap64 (x7_3 + 1)) s0_0 t195 t169 y196) = some (r1, r2, r3) := ry_
       have Ny196 := Aside0.mk hy_; clear hy_
       have H' := Aside0.mk H; clear H
       obtain ⟨Ao37, co37, eo37⟩ := Kd.R_slice HO_4.out
       subst eo37
       try go_wp2
       replace HO_4 := Aside0.mk (Kd.R_drew HO_4.out)
       replace HO_174000 := Aside0.mk (Kd.R_drew HO_174000.out)
       replace HO_174001 := Aside0.mk (Kd.R_drew HO_174001.out)
       replace BK168 := Aside0.mk (blk_drew BK168.out)
       replace BK173 := Aside0.mk (blk_drew BK173.out)
       replace HI0 := Aside0.mk (IsS66.drew HI0.out)
       replace HK := Aside0.mk (keep_drew HK.out)
       replace HB := Aside0.mk (below_drew1 HB.out)
       have p192 : 0 ≤ (x7_3 : Int) := od_
       have q192 : x7_3 < (x4_20.length : Int) := od_
       obtain ⟨ad192, e192, hx192_0⟩ := Kd.at_string (Kd.R_reads' HO_4.out).2.2 x7_3 p192 q192
       cases e192
       replace p192 := eq_true p192; replace q192 := eq_true q192
       refine start_ (n := 12) (S := fun w' => w'.cell? ⟨gb173, 0, none⟩ = some (.slice Ao6 t169.length co6) ∧ w'.cell? ⟨gb173, 1, none⟩ = some (u174001) ∧ w'.cell? (ad192.add (x7_3).toNat) = some (.string (rdOf ByteArray.empty x4_20 x7_3))) (ds := [9, 11]) (bm 12 0) (by kernel_rfl) rfl rfl ⟨(blk_cell BK173.out 0).trans rfl, (blk_cell BK173.out 1).trans rfl, hx192_0⟩ (fun hHeld => ?_); refine with_tabW spec_l13Book.tab15 spec_l13Book.bits15 (fun HT_ HW_ => ?_)
       generalize wr.drew = w38 at HO_4 HO_174000 HO_174001 BK168 BK173 HI0 HK HB hx192_0 hHeld ⊢
       refine sp_ 0 (some 44) (bm 12 1) HT_ (h := ?_)
       refine sp_ 2 (some 46) (bm 12 5) HT_ (h := ?_)
       refine sp_ 3 (some 47) (bm 12 13) HT_ (h := ?_)
       refine sp_ 4 (some 48) (bm 12 29) HT_ (h := ?_)
       refine sp_ 5 (some 49) (bm 12 61) HT_ (h := ?_)
       refine sr_ 1 (some 45) (bm 12 63) HT_ HW_ hHeld (h := ?_)
       refine sr_ 6 (some 50) (bm 12 127) HT_ HW_ hHeld (h := ?_)
       refine sn_ 7 (some 51) (bm 12 255) HT_ (fun K hK => ?_)
       refine goes_ Try.func64 (by kernel_rfl) rfl #[.pointer (some ⟨g, 0, none⟩), .string (rdOf ByteArray.empty x4_20 x7_3)] (by rfl) rfl rfl (by (try simp only [List.map_toArray, List.map_cons, List.map_nil]); first | done | rfl | (simp only [List.length_drop, List.length_take]; rfl)) ?_
       with_reducible refine (spec_l13Entry.calls k3 g s0_0 x1001_3 (rdOf ByteArray.empty x4_20 x7_3) t193 t194 t195 w0 _ ?side1 ?side2 A35.out).mono ?_
       (case side1 => exact is66_)
       (case side2 => exact bs_)
       rintro e w39 ⟨rfl, hi, hb, hk⟩
       have HS2_ := keep_cell hk (hHeld.2.2) (by first | (rw [add_block]; exact Kd.own_blk (IsS66.own_ne HI0.out HO_4.out (by decide))) | (show (Addr.add _ _).block ≠ _; rw [add_block]; exact Kd.own_blk (IsS66.own_ne HI0.out HO_4.out (by decide))) | exact Kd.own_blk (IsS66.own_ne HI0.out HO_4.out (by decide)))
       refine ⟨_, rfl, ?_⟩
       replace HO_4 := Aside0.mk (kaR66_ (kR_ HO_4) hk)
       replace HO_174000 := Aside0.mk (kaR66_ (kR_ HO_174000) hk)
       replace HO_174001 := Aside0.mk (kaR66_ (kR_ HO_174001) hk)
       replace BK168 := Aside0.mk (KeepBut.blk hk (g' := gb168) (o := .cells #[.slice none 0 0, .slice none 0 0] 26 (0, 0)) (bk_ BK168) NB168_0.out (by simp))
       replace BK173 := Aside0.mk (KeepBut.blk hk (g' := gb173) (o := .cells #[.slice Ao6 t169.length co6, u174001] 26 (0, 0)) (bk_ BK173) NB173_0.out (by simp))
       replace HK := Aside0.mk (KeepBut.trans kp_ hk (.inl rfl))
       replace HB := Aside0.mk (hb)
       replace HI0 := Aside0.mk (hi)
       (try clear hb)
       (try clear hb2)
       (try clear hk)
       (try clear hi)
       refine hK.out _ _ ⟨(blk_cell BK173.out 0).trans rfl, (blk_cell BK173.out 1).trans rfl, HS2_⟩ (fun hHeld => ?_)
       clear hK K
       refine nm_ ?_
       refine sn_ 8 (some 52) (bm 12 511) HT_ (fun K hK => ?_)
       refine vl_ ?_
       refine hK.out _ _ ⟨(blk_cell (blk_alloc BK173.out _) 0).trans rfl, (blk_cell (blk_alloc BK173.out _) 1).trans rfl, (World.cell?_alloc_lt _ _ _ (World.block_lt_of_cell? _ _ (hHeld.2.2))).trans (hHeld.2.2)⟩ (fun hHeld => ?_)
       clear hK K
       refine nm_ ?_
       refine la_ 9 (some 53) (bm 12 1023) HT_ (fun K hK => ?_)
       refine Kd.R_append_step k73 w.heap.size (by rfl) (.tmp 45) (.tmp 52) 24 73 (.agg #[(.string ⟨#[]⟩), (.string ⟨#[]⟩)]) 32 rfl Try.underlying24 info73 rfl (by decide) (by omega) u174001 x174001_3 (⟨t193, t194⟩ : S73) [.string t193, .string t194] (fun _ => True) (fun _ => False) rfl rfl ?aP (fun _ hk => hk.elim) ?aF ?aO (Below.refl _ _) ?aS ?aL ?_
       (case aP => exact k73_mkM _ _ _ (⟨t193, t194⟩ : S73))
       (case aF => exact (fun _ _ => trivial))
       (case aO => exact (kR_ HO_174001))
       (case aS => exact ks_)
       (case aL => have := LMc36.out; omega)
       intro v197 w40 ho hb hg hat
       rw [← Ny196.out] at ho
       replace HO_4 := Aside0.mk (Kd.R_over' (kR_ HO_4) (Kd.R_typed (kR_ HO_174001)) (by decide) hg)
       replace HO_174000 := Aside0.mk (Kd.R_over' (kR_ HO_174000) (Kd.R_typed (kR_ HO_174001)) (by decide) hg)
       replace BK168 := Aside0.mk (blk_grown (bk_ BK168) hg (Kd.R_ne HO_174001.out BK168.out (by decide)))
       replace BK173 := Aside0.mk (blk_grown (bk_ BK173) hg (Kd.R_ne HO_174001.out BK173.out (by decide)))
       replace HB := Aside0.mk (below_weaken bs_ HL.out hb)
       replace HI0 := Aside0.mk (IsS66.grown is66_ hg (IsS66.own_ne HI0.out HO_174001.out (by decide)))
       replace HK := Aside0.mk (KeepBut.trans kp_ (KeepBut.of_grown hg g) (Kd.R_base2 HO_174001.out))
       have HO198 := Aside0.mk (ho)
       clear HO_174001
       clear ho hb hg hat
       obtain ⟨Ao41, co41, eo41⟩ := Kd.R_slice HO198.out
       (first | subst eo41 | (injection eo41 with f1_ f2_ f3_; have f4_ := f1_.symm; have f5_ := f3_.symm; clear f1_ f2_ f3_; subst f4_; subst f5_))
       refine hK.out _ _ ?_
       clear hK K
       refine nm_ ?_
       refine sp_ 10 (some 54) (bm 12 2047) HT_ (h := ?_)
       refine la_ 11 none (bm 12 4095) HT_ (fun K hK => ?_)
       have hs42 : w40.cell? ⟨gb173, 1, none⟩ = some (u174001) := (blk_cell BK173.out 1).trans rfl
       have hfs42 := blk_frozen BK173.out 1
       have hns42_0 := NB168_173.out
       have hms42_0 := NB173_168.out
       refine skip_ (w1 := ?_) (by rfl) rfl ?_ ?_
       rotate_left
       · go_simp
         rfl
       refine hK.out _ _ ?_
       clear hK K
       refine done_ (done_of HT_.out (by kernel_rfl)) ?_
       try go_wp2
       go_roundg k3
       case measure => have := HK1.out; have := HJ20.out; have := HK3.out; omega
       case rel => exact ⟨(wrap64 (x7_3 + 1)), (t195), (y196), (.slice Ao41 y196.length co41), rf_, H', ⟨by have := HK1.out; have := HJ20.out; have := HK3.out; omega⟩, ⟨by (with_reducible repeat (first | apply Kd.R_alloc | apply Kd.R_drewN | apply Kd.R_drew)); exact Kd.R_mono (Kd.R_far (p := ⟨gb173, 1, none⟩) (Kd.R_types HO_4.out BK173.out (by decide)) (fun _ hk => hk.2) (.slice Ao41 y196.length co41)) (fun _ hk => trivial)⟩, ⟨by (with_reducible repeat (first | apply Kd.R_alloc | apply Kd.R_drewN | apply Kd.R_drew)); exact Kd.R_mono (Kd.R_far (p := ⟨gb173, 1, none⟩) (Kd.R_types HO_174000.out BK173.out (by decide)) (fun _ hk => hk.2) (.slice Ao41 y196.length co41)) (fun _ hk => trivial)⟩, ⟨by (with_reducible repeat (first | apply Kd.R_alloc | apply Kd.R_drewN | apply Kd.R_drew)); exact Kd.R_mono (Kd.R_far (p := ⟨gb173, 1, none⟩) (Kd.R_types HO198.out BK173.out (by decide)) (fun _ hk => hk.2) (.slice Ao41 y196.length co41)) (fun _ hk => trivial)⟩, ⟨by (with_reducible repeat (first | refine blk_drewN ?_ _ | refine blk_drew ?_ | refine blk_alloc ?_ _)); refine blk_far ?_ NB168_173.out _; (with_reducible repeat (first | refine blk_drewN ?_ _ | refine blk_drew ?_ | refine blk_alloc ?_ _)); exact BK168.out⟩, ⟨by (with_reducible repeat (first | refine blk_drewN ?_ _ | refine blk_drew ?_ | refine blk_alloc ?_ _)); refine blk_put (cs := #[.slice Ao6 t169.length co6, u174001]) ?_ 1 _ rfl; (with_reducible repeat (first | refine blk_drewN ?_ _ | refine blk_drew ?_ | refine blk_alloc ?_ _)); exact BK173.out⟩, ⟨is66_⟩, ⟨kp_⟩, ⟨bs_⟩⟩

/-! ### spec_l13AnyAffix: function 40 -/
def spec_l13AnyAffix.f (k : Nat) (s0_0 : List Int) (s0_1 : Int) : Option (ByteArray × Bool × ByteArray × ByteArray × ByteArray × Int) := (spec_l13Affix.f k s0_0 s0_1).bind fun bt200 => ((spec_l1Rd_pick.f k s0_0 bt200.2.2.2.2.2 12).bind fun bt207 => (if bt207.1 = 0 then ((spec_l1Rd_of.f k s0_0 bt207.2 (([(⟨#[]⟩ : ByteArray), (⟨#[115]⟩ : ByteArray), (⟨#[65, 66]⟩ : ByteArray), (⟨#[90]⟩ : ByteArray)] : List ByteArray))).bind fun bt212 => (some (bt212.1, bt200.2.1, bt200.2.2.1, bt200.2.2.2.1, bt200.2.2.2.2.1, bt212.2))) else (if bt207.1 = 1 then ((spec_l1Rd_of.f k s0_0 bt207.2 (([(⟨#[121]⟩ : ByteArray), (⟨#[97, 98, 99, 100, 101]⟩ : ByteArray), (⟨#[]⟩ : ByteArray), (⟨#[89]⟩ : ByteArray)] : List ByteArray))).bind fun bt217 => (some (bt200.1, bt200.2.1, bt217.1, bt200.2.2.2.1, bt200.2.2.2.2.1, bt217.2))) else (if bt207.1 = 2 then ((spec_l1Rd_of.f k s0_0 bt207.2 (([(⟨#[121]⟩ : ByteArray), (⟨#[116, 121]⟩ : ByteArray), (⟨#[97, 98, 99, 100, 101]⟩ : ByteArray), (⟨#[]⟩ : ByteArray)] : List ByteArray))).bind fun bt222 => (some (bt200.1, bt200.2.1, bt200.2.2.1, bt200.2.2.2.1, bt222.1, bt222.2))) else (if bt207.1 = 3 then (some (bt200.1, !bt200.2.1, bt200.2.2.1, bt200.2.2.2.1, bt200.2.2.2.2.1, bt207.2)) else (some (bt200.1, bt200.2.1, bt200.2.2.1, bt200.2.2.2.1, bt200.2.2.2.2.1, bt207.2)))))))
theorem spec_l13AnyAffix.mono : ∀ a0 a1 k, LeO (spec_l13AnyAffix.f k a0 a1) (spec_l13AnyAffix.f (k + 1) a0 a1) := by
 intro a0 a1 k
 unfold spec_l13AnyAffix.f
 have m0 := @spec_l13Affix.mono
 have m1 := @spec_l1Rd_of.mono
 have m2 := @spec_l1Rd_pick.mono
 exact mn_
theorem spec_l13AnyAffix.calls (k : Nat) (g : Nat) (s0_0 : List Int) (s0_1 : Int) (r1 : ByteArray) (r2 : Bool) (r3 : ByteArray) (r4 : ByteArray) (r5 : ByteArray) (r6 : Int) (w0 w : World) (hI : IsS66 w0 w g s0_0 s0_1) (hB : Below w0.heap.size w0 w) (h : spec_l13AnyAffix.f k s0_0 s0_1 = some (r1, r2, r3, r4, r5, r6)) :
 Calls Try.prog 40 #[.pointer (some ⟨g, 0, none⟩)] w fun e w' => e = .returned (.agg #[.string r1, .bool r2, .string r3, .string r4, .string r5]) ∧ IsS66 w0 w' g s0_0 r6 ∧ Below w0.heap.size w0 w' ∧ KeepBut w w' g none := by
 have hu68 := Try.underlying68
 have HI0 := Aside0.mk hI
 have HK := Aside0.mk (KeepBut.refl w g none)
 have HL := Aside0.mk hB.size
 clear hI
 have HW0 := Aside0.mk hB.size
 have HB := Aside0.mk hB
 clear hB
 unfold spec_l13AnyAffix.f at h; have H := h; clear h
 replace H := Option.bind_eq_some_iff.mp H
 obtain ⟨⟨t200, t201, t202, t203, t204, t205⟩, A20, H⟩ := H; try dsimp only at H
 have A2 := Aside0.mk A20
 clear A20
 replace H := Option.bind_eq_some_iff.mp H
 obtain ⟨⟨t207, t208⟩, A30, H⟩ := H; try dsimp only at H
 have A3 := Aside0.mk A30
 clear A30
 replace H := itcc_ H; rcases H with ⟨c4, H⟩ | ⟨c4, H⟩
 · have c4b0 : (t207 == 0) = true := beq_iff_eq.mpr c4
   have c4b1 : (t207 != 0) = false := bne_eq_false_iff_eq.mpr c4
   clear c4
   obtain ⟨y209, hy_⟩ : ∃ y_ : List ByteArray, y_ = (([(⟨#[]⟩ : ByteArray), (⟨#[115]⟩ : ByteArray), (⟨#[65, 66]⟩ : ByteArray), (⟨#[90]⟩ : ByteArray)] : List ByteArray)) := ⟨_, rfl⟩
   replace H : ((spec_l1Rd_of.f k s0_0 t208 y209).bind fun bt212 => (some (bt212.1, t201, t202, t203, t204, bt212.2))) = some (r1, r2, r3, r4, r5, r6) := ry_
   have Ny209 := Aside0.mk hy_; clear hy_
   replace H := Option.bind_eq_some_iff.mp H
   obtain ⟨⟨t212, t213⟩, A50, H⟩ := H; try dsimp only at H
   have A5 := Aside0.mk A50
   clear A50
   simp only [Option.some.injEq, Prod.mk.injEq] at H
   obtain ⟨rfl, rfl, rfl, rfl, rfl, rfl⟩ := H
   go_enter Try.func40, Try.ntmps40
   go_wp2_with (first | ((with_reducible refine gate_dst (N := 2) rfl ?_); refine be_ 2 68 #[.string (⟨#[]⟩ : ByteArray), .bool false, .string (⟨#[]⟩ : ByteArray), .string (⟨#[]⟩ : ByteArray), .string (⟨#[]⟩ : ByteArray)] ?_; intro gb199 hg w6 hbox hb; replace HB := Aside0.mk (below_step bs_ hb); have BK199 := Aside0.mk (hbox); have GW199 := Aside0.mk ((gk_ hg : w.heap.size ≤ gb199)); have GE199 := Aside0.mk ((Nat.le_trans HW0.out (gk_ hg : w.heap.size ≤ gb199) : w0.heap.size ≤ gb199)); replace HK := Aside0.mk (KeepBut.trans kp_ (KeepBut.of_below hb g none) (.inl rfl)); have NB0_199 := Aside0.mk ((by rw [hg]; exact Nat.ne_of_lt (IsS66.lt (show IsS66 w0 _ g s0_0 s0_1 from is66_)) : g ≠ gb199)); have NB199_0 := Aside0.mk ((by rw [hg]; exact Nat.ne_of_gt (IsS66.lt (show IsS66 w0 _ g s0_0 s0_1 from is66_)) : gb199 ≠ g)); replace HI0 := Aside0.mk (IsS66.below is66_ hb); clear hb hbox hg) | ((with_reducible refine gate_callee (f := 65) rfl ?_); refine gl_ 5 Try.func65 #[.pointer (some ⟨g, 0, none⟩)] ?_; (with_reducible refine (spec_l13Affix.calls k g s0_0 s0_1 t200 t201 t202 t203 t204 t205 w0 _ ?side1 ?side2 A2.out).mono ?_); (case side1 => exact is66_); (case side2 => exact bs_); rintro e w7 ⟨rfl, hi, hb, hk⟩; refine ⟨_, rfl, ?_⟩; replace BK199 := Aside0.mk (KeepBut.blk hk (g' := gb199) (o := .cells #[.string (⟨#[]⟩ : ByteArray), .bool false, .string (⟨#[]⟩ : ByteArray), .string (⟨#[]⟩ : ByteArray), .string (⟨#[]⟩ : ByteArray)] 68 (0, 0)) (bk_ BK199) NB199_0.out (by simp)); replace HK := Aside0.mk (KeepBut.trans kp_ hk (.inl rfl)); replace HB := Aside0.mk (hb); replace HI0 := Aside0.mk (hi); (try clear hb); (try clear hb2); (try clear hk); (try clear hi)) | ((with_reducible refine gate_dst (N := 3) rfl ?_); refine be_ 3 68 #[.string (⟨#[]⟩ : ByteArray), .bool false, .string (⟨#[]⟩ : ByteArray), .string (⟨#[]⟩ : ByteArray), .string (⟨#[]⟩ : ByteArray)] ?_; intro gb206 hg w8 hbox hb; replace HB := Aside0.mk (below_step bs_ hb); have BK206 := Aside0.mk (hbox); have GW206 := Aside0.mk ((gk_ hg : w.heap.size ≤ gb206)); have GE206 := Aside0.mk ((Nat.le_trans HW0.out (gk_ hg : w.heap.size ≤ gb206) : w0.heap.size ≤ gb206)); replace HK := Aside0.mk (KeepBut.trans kp_ (KeepBut.of_below hb g none) (.inl rfl)); have NB199_206 := Aside0.mk ((by rw [hg]; exact Nat.ne_of_lt (blk_lt (bk_ BK199)) : gb199 ≠ gb206)); have NB206_199 := Aside0.mk ((by rw [hg]; exact Nat.ne_of_gt (blk_lt (bk_ BK199)) : gb206 ≠ gb199)); replace BK199 := Aside0.mk (blk_below (bk_ BK199) hb); have NB0_206 := Aside0.mk ((by rw [hg]; exact Nat.ne_of_lt (IsS66.lt (show IsS66 w0 _ g s0_0 t205 from is66_)) : g ≠ gb206)); have NB206_0 := Aside0.mk ((by rw [hg]; exact Nat.ne_of_gt (IsS66.lt (show IsS66 w0 _ g s0_0 t205 from is66_)) : gb206 ≠ g)); replace HI0 := Aside0.mk (IsS66.below is66_ hb); clear hb hbox hg; have hnb9 := NB206_199.out; have hnc9 := NB199_206.out; have hnb10 := NB206_0.out; have hnc10 := NB0_206.out; have hcz11_0 := bc0_ BK206; have hcz11_1 := bc1_ BK206; have hcz11_2 := bc2_ BK206; have hcz11_3 := bc3_ BK206; have hcz11_4 := bc4_ BK206; have hfz11_0 := blk_frozen BK206.out 0; have hfz11_1 := blk_frozen BK206.out 1; have hfz11_2 := blk_frozen BK206.out 2; have hfz11_3 := blk_frozen BK206.out 3; have hfz11_4 := blk_frozen BK206.out 4) | ((with_reducible refine gate_callee (f := 20) rfl ?_); refine gl_ 7 Try.func20 #[.pointer (some ⟨g, 0, none⟩), .int .i64 12] ?_; (with_reducible refine (spec_l1Rd_pick.calls k g s0_0 t205 12 t207 t208 w0 _ ?side1 ?side2 A3.out).mono ?_); (case side1 => exact is66_); (case side2 => exact bs_); rintro e w12 ⟨rfl, hi, hb, hk⟩; refine ⟨_, rfl, ?_⟩; replace BK199 := Aside0.mk (KeepBut.blk hk (g' := gb199) (o := .cells #[.string (⟨#[]⟩ : ByteArray), .bool false, .string (⟨#[]⟩ : ByteArray), .string (⟨#[]⟩ : ByteArray), .string (⟨#[]⟩ : ByteArray)] 68 (0, 0)) bq_ NB199_0.out (by simp)); replace BK206 := Aside0.mk (KeepBut.blk hk (g' := gb206) (o := .cells #[.string t200, .bool t201, .string t202, .string t203, .string t204] 68 (0, 0)) bq_ NB206_0.out (by simp)); replace HK := Aside0.mk (KeepBut.trans kp_ hk (.inl rfl)); replace HB := Aside0.mk (hb); replace HI0 := Aside0.mk (hi); (try clear hb); (try clear hb2); (try clear hk); (try clear hi)) | ((with_reducible refine gate_dst (N := 11) rfl ?_); refine rl_ Kd.string 9 11 ([(⟨#[]⟩ : ByteArray), (⟨#[115]⟩ : ByteArray), (⟨#[65, 66]⟩ : ByteArray), (⟨#[90]⟩ : ByteArray)] : List ByteArray) [.string (⟨#[]⟩ : ByteArray), .string (⟨#[115]⟩ : ByteArray), .string (⟨#[65, 66]⟩ : ByteArray), .string (⟨#[90]⟩ : ByteArray)] ?_; intro v210 w13 ho14 hb hg_ hnew_; clear hg_ hnew_; (first | rw [← Ny209.out] at ho14 | (simp only [Int.reduceToNat] at ho14; rw [← Ny209.out] at ho14)); have HO211 := Aside0.mk (Kd.R_lower ho14 ks_); replace BK199 := Aside0.mk (blk_below (bk_ BK199) hb); replace BK206 := Aside0.mk (blk_below (bk_ BK206) hb); replace HK := Aside0.mk (KeepBut.trans kp_ (KeepBut.of_below hb g none) (.inl rfl)); replace HB := Aside0.mk (below_step bs_ hb); replace HI0 := Aside0.mk (IsS66.below is66_ hb); clear hb ho14; obtain ⟨Ao15, co15, eo15⟩ := Kd.R_slice HO211.out; subst eo15) | ((with_reducible refine gate_callee (f := 42) rfl ?_); refine gl_ 12 Try.func42 #[.pointer (some ⟨g, 0, none⟩), .slice Ao15 y209.length co15] ?_; (with_reducible refine (spec_l1Rd_of.calls k g s0_0 t208 _ _ y209 t212 t213 w0 _ ?side1 ?side2 ?side3 ?side4 ?side5 A5.out).mono ?_); (case side1 => exact is66_); (case side2 => exact bs_); (case side3 => exact cr_ HO211); (case side4 => exact (Kd.R_reads' HO211.out).2.1); (case side5 => exact far_slice (IsS66.own_ne HI0.out HO211.out (by decide))); rintro e w16 ⟨rfl, hi, hb, hk⟩; refine ⟨_, rfl, ?_⟩; replace BK199 := Aside0.mk (KeepBut.blk hk (g' := gb199) (o := .cells #[.string (⟨#[]⟩ : ByteArray), .bool false, .string (⟨#[]⟩ : ByteArray), .string (⟨#[]⟩ : ByteArray), .string (⟨#[]⟩ : ByteArray)] 68 (0, 0)) (bk_ BK199) NB199_0.out (by simp)); replace BK206 := Aside0.mk (KeepBut.blk hk (g' := gb206) (o := .cells #[.string t200, .bool t201, .string t202, .string t203, .string t204] 68 (0, 0)) (bk_ BK206) NB206_0.out (by simp)); replace HO211 := Aside0.mk (kaR66_ (kR_ HO211) hk); replace HK := Aside0.mk (KeepBut.trans kp_ hk (.inl rfl)); replace HB := Aside0.mk (hb); replace HI0 := Aside0.mk (hi); (try clear hb); (try clear hb2); (try clear hk); (try clear hi); have hcz17_0 := bc0_ BK206; have hcz17_1 := bc1_ BK206; have hcz17_2 := bc2_ BK206; have hcz17_3 := bc3_ BK206; have hcz17_4 := bc4_ BK206; have hfz17_0 := blk_frozen BK206.out 0; have hfz17_1 := blk_frozen BK206.out 1; have hfz17_2 := blk_frozen BK206.out 2; have hfz17_3 := blk_frozen BK206.out 3; have hfz17_4 := blk_frozen BK206.out 4; have hnb18 := NB199_0.out; have hnc18 := NB0_199.out; have hcz19_0 := bc0_ BK199; have hcz19_1 := bc1_ BK199; have hcz19_2 := bc2_ BK199; have hcz19_3 := bc3_ BK199; have hcz19_4 := bc4_ BK199; have hfz19_0 := blk_frozen BK199.out 0; have hfz19_1 := blk_frozen BK199.out 1; have hfz19_2 := blk_frozen BK199.out 2; have hfz19_3 := blk_frozen BK199.out 3; have hfz19_4 := blk_frozen BK199.out 4))
   refine bodyPost_ret (results_cell_row rfl _ _ gb199 68 #[.string t212, .bool t201, .string t202, .string t203, .string t204] (0, 0) _ rfl bq_ Try.underlying68 rfl (by kernel_rfl)) rfl ?_
   exact ⟨rfe_, is66_, bs_, kp_⟩
 have c4b0 : (t207 == 0) = false := beq_eq_false_iff_ne.mpr c4
 have c4b1 : (t207 != 0) = true := bne_iff_ne.mpr c4
 replace H := itcc_ H; rcases H with ⟨c20, H⟩ | ⟨c20, H⟩
 · have c20b0 : (t207 == 1) = true := beq_iff_eq.mpr c20
   have c20b1 : (t207 != 1) = false := bne_eq_false_iff_eq.mpr c20
   clear c20
   obtain ⟨y214, hy_⟩ : ∃ y_ : List ByteArray, y_ = (([(⟨#[121]⟩ : ByteArray), (⟨#[97, 98, 99, 100, 101]⟩ : ByteArray), (⟨#[]⟩ : ByteArray), (⟨#[89]⟩ : ByteArray)] : List ByteArray)) := ⟨_, rfl⟩
   replace H : ((spec_l1Rd_of.f k s0_0 t208 y214).bind fun bt217 => (some (t200, t201, bt217.1, t203, t204, bt217.2))) = some (r1, r2, r3, r4, r5, r6) := ry_
   have Ny214 := Aside0.mk hy_; clear hy_
   replace H := Option.bind_eq_some_iff.mp H
   obtain ⟨⟨t217, t218⟩, A210, H⟩ := H; try dsimp only at H
   have A21 := Aside0.mk A210
   clear A210
   simp only [Option.some.injEq, Prod.mk.injEq] at H
   obtain ⟨rfl, rfl, rfl, rfl, rfl, rfl⟩ := H
   go_enter Try.func40, Try.ntmps40
   go_wp2_with (first | ((with_reducible refine gate_dst (N := 2) rfl ?_); refine be_ 2 68 #[.string (⟨#[]⟩ : ByteArray), .bool false, .string (⟨#[]⟩ : ByteArray), .string (⟨#[]⟩ : ByteArray), .string (⟨#[]⟩ : ByteArray)] ?_; intro gb199 hg w22 hbox hb; replace HB := Aside0.mk (below_step bs_ hb); have BK199 := Aside0.mk (hbox); have GW199 := Aside0.mk ((gk_ hg : w.heap.size ≤ gb199)); have GE199 := Aside0.mk ((Nat.le_trans HW0.out (gk_ hg : w.heap.size ≤ gb199) : w0.heap.size ≤ gb199)); replace HK := Aside0.mk (KeepBut.trans kp_ (KeepBut.of_below hb g none) (.inl rfl)); have NB0_199 := Aside0.mk ((by rw [hg]; exact Nat.ne_of_lt (IsS66.lt (show IsS66 w0 _ g s0_0 s0_1 from is66_)) : g ≠ gb199)); have NB199_0 := Aside0.mk ((by rw [hg]; exact Nat.ne_of_gt (IsS66.lt (show IsS66 w0 _ g s0_0 s0_1 from is66_)) : gb199 ≠ g)); replace HI0 := Aside0.mk (IsS66.below is66_ hb); clear hb hbox hg) | ((with_reducible refine gate_callee (f := 65) rfl ?_); refine gl_ 5 Try.func65 #[.pointer (some ⟨g, 0, none⟩)] ?_; (with_reducible refine (spec_l13Affix.calls k g s0_0 s0_1 t200 t201 t202 t203 t204 t205 w0 _ ?side1 ?side2 A2.out).mono ?_); (case side1 => exact is66_); (case side2 => exact bs_); rintro e w23 ⟨rfl, hi, hb, hk⟩; refine ⟨_, rfl, ?_⟩; replace BK199 := Aside0.mk (KeepBut.blk hk (g' := gb199) (o := .cells #[.string (⟨#[]⟩ : ByteArray), .bool false, .string (⟨#[]⟩ : ByteArray), .string (⟨#[]⟩ : ByteArray), .string (⟨#[]⟩ : ByteArray)] 68 (0, 0)) (bk_ BK199) NB199_0.out (by simp)); replace HK := Aside0.mk (KeepBut.trans kp_ hk (.inl rfl)); replace HB := Aside0.mk (hb); replace HI0 := Aside0.mk (hi); (try clear hb); (try clear hb2); (try clear hk); (try clear hi)) | ((with_reducible refine gate_dst (N := 3) rfl ?_); refine be_ 3 68 #[.string (⟨#[]⟩ : ByteArray), .bool false, .string (⟨#[]⟩ : ByteArray), .string (⟨#[]⟩ : ByteArray), .string (⟨#[]⟩ : ByteArray)] ?_; intro gb206 hg w24 hbox hb; replace HB := Aside0.mk (below_step bs_ hb); have BK206 := Aside0.mk (hbox); have GW206 := Aside0.mk ((gk_ hg : w.heap.size ≤ gb206)); have GE206 := Aside0.mk ((Nat.le_trans HW0.out (gk_ hg : w.heap.size ≤ gb206) : w0.heap.size ≤ gb206)); replace HK := Aside0.mk (KeepBut.trans kp_ (KeepBut.of_below hb g none) (.inl rfl)); have NB199_206 := Aside0.mk ((by rw [hg]; exact Nat.ne_of_lt (blk_lt (bk_ BK199)) : gb199 ≠ gb206)); have NB206_199 := Aside0.mk ((by rw [hg]; exact Nat.ne_of_gt (blk_lt (bk_ BK199)) : gb206 ≠ gb199)); replace BK199 := Aside0.mk (blk_below (bk_ BK199) hb); have NB0_206 := Aside0.mk ((by rw [hg]; exact Nat.ne_of_lt (IsS66.lt (show IsS66 w0 _ g s0_0 t205 from is66_)) : g ≠ gb206)); have NB206_0 := Aside0.mk ((by rw [hg]; exact Nat.ne_of_gt (IsS66.lt (show IsS66 w0 _ g s0_0 t205 from is66_)) : gb206 ≠ g)); replace HI0 := Aside0.mk (IsS66.below is66_ hb); clear hb hbox hg; have hnb25 := NB206_199.out; have hnc25 := NB199_206.out; have hnb26 := NB206_0.out; have hnc26 := NB0_206.out; have hcz27_0 := bc0_ BK206; have hcz27_1 := bc1_ BK206; have hcz27_2 := bc2_ BK206; have hcz27_3 := bc3_ BK206; have hcz27_4 := bc4_ BK206; have hfz27_0 := blk_frozen BK206.out 0; have hfz27_1 := blk_frozen BK206.out 1; have hfz27_2 := blk_frozen BK206.out 2; have hfz27_3 := blk_frozen BK206.out 3; have hfz27_4 := blk_frozen BK206.out 4) | ((with_reducible refine gate_callee (f := 20) rfl ?_); refine gl_ 7 Try.func20 #[.pointer (some ⟨g, 0, none⟩), .int .i64 12] ?_; (with_reducible refine (spec_l1Rd_pick.calls k g s0_0 t205 12 t207 t208 w0 _ ?side1 ?side2 A3.out).mono ?_); (case side1 => exact is66_); (case side2 => exact bs_); rintro e w28 ⟨rfl, hi, hb, hk⟩; refine ⟨_, rfl, ?_⟩; replace BK199 := Aside0.mk (KeepBut.blk hk (g' := gb199) (o := .cells #[.string (⟨#[]⟩ : ByteArray), .bool false, .string (⟨#[]⟩ : ByteArray), .string (⟨#[]⟩ : ByteArray), .string (⟨#[]⟩ : ByteArray)] 68 (0, 0)) bq_ NB199_0.out (by simp)); replace BK206 := Aside0.mk (KeepBut.blk hk (g' := gb206) (o := .cells #[.string t200, .bool t201, .string t202, .string t203, .string t204] 68 (0, 0)) bq_ NB206_0.out (by simp)); replace HK := Aside0.mk (KeepBut.trans kp_ hk (.inl rfl)); replace HB := Aside0.mk (hb); replace HI0 := Aside0.mk (hi); (try clear hb); (try clear hb2); (try clear hk); (try clear hi)) | ((with_reducible refine gate_dst (N := 17) rfl ?_); refine rl_ Kd.string 9 17 ([(⟨#[121]⟩ : ByteArray), (⟨#[97, 98, 99, 100, 101]⟩ : ByteArray), (⟨#[]⟩ : ByteArray), (⟨#[89]⟩ : ByteArray)] : List ByteArray) [.string (⟨#[121]⟩ : ByteArray), .string (⟨#[97, 98, 99, 100, 101]⟩ : ByteArray), .string (⟨#[]⟩ : ByteArray), .string (⟨#[89]⟩ : ByteArray)] ?_; intro v215 w29 ho30 hb hg_ hnew_; clear hg_ hnew_; (first | rw [← Ny214.out] at ho30 | (simp only [Int.reduceToNat] at ho30; rw [← Ny214.out] at ho30)); have HO216 := Aside0.mk (Kd.R_lower ho30 ks_); replace BK199 := Aside0.mk (blk_below (bk_ BK199) hb); replace BK206 := Aside0.mk (blk_below (bk_ BK206) hb); replace HK := Aside0.mk (KeepBut.trans kp_ (KeepBut.of_below hb g none) (.inl rfl)); replace HB := Aside0.mk (below_step bs_ hb); replace HI0 := Aside0.mk (IsS66.below is66_ hb); clear hb ho30; obtain ⟨Ao31, co31, eo31⟩ := Kd.R_slice HO216.out; subst eo31) | ((with_reducible refine gate_callee (f := 42) rfl ?_); refine gl_ 18 Try.func42 #[.pointer (some ⟨g, 0, none⟩), .slice Ao31 y214.length co31] ?_; (with_reducible refine (spec_l1Rd_of.calls k g s0_0 t208 _ _ y214 t217 t218 w0 _ ?side1 ?side2 ?side3 ?side4 ?side5 A21.out).mono ?_); (case side1 => exact is66_); (case side2 => exact bs_); (case side3 => exact cr_ HO216); (case side4 => exact (Kd.R_reads' HO216.out).2.1); (case side5 => exact far_slice (IsS66.own_ne HI0.out HO216.out (by decide))); rintro e w32 ⟨rfl, hi, hb, hk⟩; refine ⟨_, rfl, ?_⟩; replace BK199 := Aside0.mk (KeepBut.blk hk (g' := gb199) (o := .cells #[.string (⟨#[]⟩ : ByteArray), .bool false, .string (⟨#[]⟩ : ByteArray), .string (⟨#[]⟩ : ByteArray), .string (⟨#[]⟩ : ByteArray)] 68 (0, 0)) (bk_ BK199) NB199_0.out (by simp)); replace BK206 := Aside0.mk (KeepBut.blk hk (g' := gb206) (o := .cells #[.string t200, .bool t201, .string t202, .string t203, .string t204] 68 (0, 0)) (bk_ BK206) NB206_0.out (by simp)); replace HO216 := Aside0.mk (kaR66_ (kR_ HO216) hk); replace HK := Aside0.mk (KeepBut.trans kp_ hk (.inl rfl)); replace HB := Aside0.mk (hb); replace HI0 := Aside0.mk (hi); (try clear hb); (try clear hb2); (try clear hk); (try clear hi); have hcz33_0 := bc0_ BK206; have hcz33_1 := bc1_ BK206; have hcz33_2 := bc2_ BK206; have hcz33_3 := bc3_ BK206; have hcz33_4 := bc4_ BK206; have hfz33_0 := blk_frozen BK206.out 0; have hfz33_1 := blk_frozen BK206.out 1; have hfz33_2 := blk_frozen BK206.out 2; have hfz33_3 := blk_frozen BK206.out 3; have hfz33_4 := blk_frozen BK206.out 4; have hnb34 := NB199_0.out; have hnc34 := NB0_199.out; have hcz35_0 := bc0_ BK199; have hcz35_1 := bc1_ BK199; have hcz35_2 := bc2_ BK199; have hcz35_3 := bc3_ BK199; have hcz35_4 := bc4_ BK199; have hfz35_0 := blk_frozen BK199.out 0; have hfz35_1 := blk_frozen BK199.out 1; have hfz35_2 := blk_frozen BK199.out 2; have hfz35_3 := blk_frozen BK199.out 3; have hfz35_4 := blk_frozen BK199.out 4))
   refine bodyPost_ret (results_cell_row rfl _ _ gb199 68 #[.string t200, .bool t201, .string t217, .string t203, .string t204] (0, 0) _ rfl bq_ Try.underlying68 rfl (by kernel_rfl)) rfl ?_
   exact ⟨rfe_, is66_, bs_, kp_⟩
 have c20b0 : (t207 == 1) = false := beq_eq_false_iff_ne.mpr c20
 have c20b1 : (t207 != 1) = true := bne_iff_ne.mpr c20
 replace H := itcc_ H; rcases H with ⟨c36, H⟩ | ⟨c36, H⟩
 · have c36b0 : (t207 == 2) = true := beq_iff_eq.mpr c36
   have c36b1 : (t207 != 2) = false := bne_eq_false_iff_eq.mpr c36
   clear c36
   obtain ⟨y219, hy_⟩ : ∃ y_ : List ByteArray, y_ = (([(⟨#[121]⟩ : ByteArray), (⟨#[116, 121]⟩ : ByteArray), (⟨#[97, 98, 99, 100, 101]⟩ : ByteArray), (⟨#[]⟩ : ByteArray)] : List ByteArray)) := ⟨_, rfl⟩
   replace H : ((spec_l1Rd_of.f k s0_0 t208 y219).bind fun bt222 => (some (t200, t201, t202, t203, bt222.1, bt222.2))) = some (r1, r2, r3, r4, r5, r6) := ry_
   have Ny219 := Aside0.mk hy_; clear hy_
   replace H := Option.bind_eq_some_iff.mp H
   obtain ⟨⟨t222, t223⟩, A370, H⟩ := H; try dsimp only at H
   have A37 := Aside0.mk A370
   clear A370
   simp only [Option.some.injEq, Prod.mk.injEq] at H
   obtain ⟨rfl, rfl, rfl, rfl, rfl, rfl⟩ := H
   go_enter Try.func40, Try.ntmps40
   go_wp2_with (first | ((with_reducible refine gate_dst (N := 2) rfl ?_); refine be_ 2 68 #[.string (⟨#[]⟩ : ByteArray), .bool false, .string (⟨#[]⟩ : ByteArray), .string (⟨#[]⟩ : ByteArray), .string (⟨#[]⟩ : ByteArray)] ?_; intro gb199 hg w38 hbox hb; replace HB := Aside0.mk (below_step bs_ hb); have BK199 := Aside0.mk (hbox); have GW199 := Aside0.mk ((gk_ hg : w.heap.size ≤ gb199)); have GE199 := Aside0.mk ((Nat.le_trans HW0.out (gk_ hg : w.heap.size ≤ gb199) : w0.heap.size ≤ gb199)); replace HK := Aside0.mk (KeepBut.trans kp_ (KeepBut.of_below hb g none) (.inl rfl)); have NB0_199 := Aside0.mk ((by rw [hg]; exact Nat.ne_of_lt (IsS66.lt (show IsS66 w0 _ g s0_0 s0_1 from is66_)) : g ≠ gb199)); have NB199_0 := Aside0.mk ((by rw [hg]; exact Nat.ne_of_gt (IsS66.lt (show IsS66 w0 _ g s0_0 s0_1 from is66_)) : gb199 ≠ g)); replace HI0 := Aside0.mk (IsS66.below is66_ hb); clear hb hbox hg) | ((with_reducible refine gate_callee (f := 65) rfl ?_); refine gl_ 5 Try.func65 #[.pointer (some ⟨g, 0, none⟩)] ?_; (with_reducible refine (spec_l13Affix.calls k g s0_0 s0_1 t200 t201 t202 t203 t204 t205 w0 _ ?side1 ?side2 A2.out).mono ?_); (case side1 => exact is66_); (case side2 => exact bs_); rintro e w39 ⟨rfl, hi, hb, hk⟩; refine ⟨_, rfl, ?_⟩; replace BK199 := Aside0.mk (KeepBut.blk hk (g' := gb199) (o := .cells #[.string (⟨#[]⟩ : ByteArray), .bool false, .string (⟨#[]⟩ : ByteArray), .string (⟨#[]⟩ : ByteArray), .string (⟨#[]⟩ : ByteArray)] 68 (0, 0)) (bk_ BK199) NB199_0.out (by simp)); replace HK := Aside0.mk (KeepBut.trans kp_ hk (.inl rfl)); replace HB := Aside0.mk (hb); replace HI0 := Aside0.mk (hi); (try clear hb); (try clear hb2); (try clear hk); (try clear hi)) | ((with_reducible refine gate_dst (N := 3) rfl ?_); refine be_ 3 68 #[.string (⟨#[]⟩ : ByteArray), .bool false, .string (⟨#[]⟩ : ByteArray), .string (⟨#[]⟩ : ByteArray), .string (⟨#[]⟩ : ByteArray)] ?_; intro gb206 hg w40 hbox hb; replace HB := Aside0.mk (below_step bs_ hb); have BK206 := Aside0.mk (hbox); have GW206 := Aside0.mk ((gk_ hg : w.heap.size ≤ gb206)); have GE206 := Aside0.mk ((Nat.le_trans HW0.out (gk_ hg : w.heap.size ≤ gb206) : w0.heap.size ≤ gb206)); replace HK := Aside0.mk (KeepBut.trans kp_ (KeepBut.of_below hb g none) (.inl rfl)); have NB199_206 := Aside0.mk ((by rw [hg]; exact Nat.ne_of_lt (blk_lt (bk_ BK199)) : gb199 ≠ gb206)); have NB206_199 := Aside0.mk ((by rw [hg]; exact Nat.ne_of_gt (blk_lt (bk_ BK199)) : gb206 ≠ gb199)); replace BK199 := Aside0.mk (blk_below (bk_ BK199) hb); have NB0_206 := Aside0.mk ((by rw [hg]; exact Nat.ne_of_lt (IsS66.lt (show IsS66 w0 _ g s0_0 t205 from is66_)) : g ≠ gb206)); have NB206_0 := Aside0.mk ((by rw [hg]; exact Nat.ne_of_gt (IsS66.lt (show IsS66 w0 _ g s0_0 t205 from is66_)) : gb206 ≠ g)); replace HI0 := Aside0.mk (IsS66.below is66_ hb); clear hb hbox hg; have hnb41 := NB206_199.out; have hnc41 := NB199_206.out; have hnb42 := NB206_0.out; have hnc42 := NB0_206.out; have hcz43_0 := bc0_ BK206; have hcz43_1 := bc1_ BK206; have hcz43_2 := bc2_ BK206; have hcz43_3 := bc3_ BK206; have hcz43_4 := bc4_ BK206; have hfz43_0 := blk_frozen BK206.out 0; have hfz43_1 := blk_frozen BK206.out 1; have hfz43_2 := blk_frozen BK206.out 2; have hfz43_3 := blk_frozen BK206.out 3; have hfz43_4 := blk_frozen BK206.out 4) | ((with_reducible refine gate_callee (f := 20) rfl ?_); refine gl_ 7 Try.func20 #[.pointer (some ⟨g, 0, none⟩), .int .i64 12] ?_; (with_reducible refine (spec_l1Rd_pick.calls k g s0_0 t205 12 t207 t208 w0 _ ?side1 ?side2 A3.out).mono ?_); (case side1 => exact is66_); (case side2 => exact bs_); rintro e w44 ⟨rfl, hi, hb, hk⟩; refine ⟨_, rfl, ?_⟩; replace BK199 := Aside0.mk (KeepBut.blk hk (g' := gb199) (o := .cells #[.string (⟨#[]⟩ : ByteArray), .bool false, .string (⟨#[]⟩ : ByteArray), .string (⟨#[]⟩ : ByteArray), .string (⟨#[]⟩ : ByteArray)] 68 (0, 0)) bq_ NB199_0.out (by simp)); replace BK206 := Aside0.mk (KeepBut.blk hk (g' := gb206) (o := .cells #[.string t200, .bool t201, .string t202, .string t203, .string t204] 68 (0, 0)) bq_ NB206_0.out (by simp)); replace HK := Aside0.mk (KeepBut.trans kp_ hk (.inl rfl)); replace HB := Aside0.mk (hb); replace HI0 := Aside0.mk (hi); (try clear hb); (try clear hb2); (try clear hk); (try clear hi)) | ((with_reducible refine gate_dst (N := 23) rfl ?_); refine rl_ Kd.string 9 23 ([(⟨#[121]⟩ : ByteArray), (⟨#[116, 121]⟩ : ByteArray), (⟨#[97, 98, 99, 100, 101]⟩ : ByteArray), (⟨#[]⟩ : ByteArray)] : List ByteArray) [.string (⟨#[121]⟩ : ByteArray), .string (⟨#[116, 121]⟩ : ByteArray), .string (⟨#[97, 98, 99, 100, 101]⟩ : ByteArray), .string (⟨#[]⟩ : ByteArray)] ?_; intro v220 w45 ho46 hb hg_ hnew_; clear hg_ hnew_; (first | rw [← Ny219.out] at ho46 | (simp only [Int.reduceToNat] at ho46; rw [← Ny219.out] at ho46)); have HO221 := Aside0.mk (Kd.R_lower ho46 ks_); replace BK199 := Aside0.mk (blk_below (bk_ BK199) hb); replace BK206 := Aside0.mk (blk_below (bk_ BK206) hb); replace HK := Aside0.mk (KeepBut.trans kp_ (KeepBut.of_below hb g none) (.inl rfl)); replace HB := Aside0.mk (below_step bs_ hb); replace HI0 := Aside0.mk (IsS66.below is66_ hb); clear hb ho46; obtain ⟨Ao47, co47, eo47⟩ := Kd.R_slice HO221.out; subst eo47) | ((with_reducible refine gate_callee (f := 42) rfl ?_); refine gl_ 24 Try.func42 #[.pointer (some ⟨g, 0, none⟩), .slice Ao47 y219.length co47] ?_; (with_reducible refine (spec_l1Rd_of.calls k g s0_0 t208 _ _ y219 t222 t223 w0 _ ?side1 ?side2 ?side3 ?side4 ?side5 A37.out).mono ?_); (case side1 => exact is66_); (case side2 => exact bs_); (case side3 => exact cr_ HO221); (case side4 => exact (Kd.R_reads' HO221.out).2.1); (case side5 => exact far_slice (IsS66.own_ne HI0.out HO221.out (by decide))); rintro e w48 ⟨rfl, hi, hb, hk⟩; refine ⟨_, rfl, ?_⟩; replace BK199 := Aside0.mk (KeepBut.blk hk (g' := gb199) (o := .cells #[.string (⟨#[]⟩ : ByteArray), .bool false, .string (⟨#[]⟩ : ByteArray), .string (⟨#[]⟩ : ByteArray), .string (⟨#[]⟩ : ByteArray)] 68 (0, 0)) (bk_ BK199) NB199_0.out (by simp)); replace BK206 := Aside0.mk (KeepBut.blk hk (g' := gb206) (o := .cells #[.string t200, .bool t201, .string t202, .string t203, .string t204] 68 (0, 0)) (bk_ BK206) NB206_0.out (by simp)); replace HO221 := Aside0.mk (kaR66_ (kR_ HO221) hk); replace HK := Aside0.mk (KeepBut.trans kp_ hk (.inl rfl)); replace HB := Aside0.mk (hb); replace HI0 := Aside0.mk (hi); (try clear hb); (try clear hb2); (try clear hk); (try clear hi); have hcz49_0 := bc0_ BK206; have hcz49_1 := bc1_ BK206; have hcz49_2 := bc2_ BK206; have hcz49_3 := bc3_ BK206; have hcz49_4 := bc4_ BK206; have hfz49_0 := blk_frozen BK206.out 0; have hfz49_1 := blk_frozen BK206.out 1; have hfz49_2 := blk_frozen BK206.out 2; have hfz49_3 := blk_frozen BK206.out 3; have hfz49_4 := blk_frozen BK206.out 4; have hnb50 := NB199_0.out; have hnc50 := NB0_199.out; have hcz51_0 := bc0_ BK199; have hcz51_1 := bc1_ BK199; have hcz51_2 := bc2_ BK199; have hcz51_3 := bc3_ BK199; have hcz51_4 := bc4_ BK199; have hfz51_0 := blk_frozen BK199.out 0; have hfz51_1 := blk_frozen BK199.out 1; have hfz51_2 := blk_frozen BK199.out 2; have hfz51_3 := blk_frozen BK199.out 3; have hfz51_4 := blk_frozen BK199.out 4))
   refine bodyPost_ret (results_cell_row rfl _ _ gb199 68 #[.string t200, .bool t201, .string t202, .string t203, .string t222] (0, 0) _ rfl bq_ Try.underlying68 rfl (by kernel_rfl)) rfl ?_
   exact ⟨rfe_, is66_, bs_, kp_⟩
 have c36b0 : (t207 == 2) = false := beq_eq_false_iff_ne.mpr c36
 have c36b1 : (t207 != 2) = true := bne_iff_ne.mpr c36
 replace H := iucc_ H; rcases H with ⟨c52, H⟩ | ⟨c52, H⟩
 · have c52b0 : (t207 == 3) = false := beq_eq_false_iff_ne.mpr c52
   have c52b1 : (t207 != 3) = true := bne_iff_ne.mpr c52
   simp only [Option.some.injEq, Prod.mk.injEq] at H
   obtain ⟨rfl, rfl, rfl, rfl, rfl, rfl⟩ := H
   go_enter Try.func40, Try.ntmps40
   go_wp2_with (first | ((with_reducible refine gate_dst (N := 2) rfl ?_); refine be_ 2 68 #[.string (⟨#[]⟩ : ByteArray), .bool false, .string (⟨#[]⟩ : ByteArray), .string (⟨#[]⟩ : ByteArray), .string (⟨#[]⟩ : ByteArray)] ?_; intro gb199 hg w63 hbox hb; replace HB := Aside0.mk (below_step bs_ hb); have BK199 := Aside0.mk (hbox); have GW199 := Aside0.mk ((gk_ hg : w.heap.size ≤ gb199)); have GE199 := Aside0.mk ((Nat.le_trans HW0.out (gk_ hg : w.heap.size ≤ gb199) : w0.heap.size ≤ gb199)); replace HK := Aside0.mk (KeepBut.trans kp_ (KeepBut.of_below hb g none) (.inl rfl)); have NB0_199 := Aside0.mk ((by rw [hg]; exact Nat.ne_of_lt (IsS66.lt (show IsS66 w0 _ g s0_0 s0_1 from is66_)) : g ≠ gb199)); have NB199_0 := Aside0.mk ((by rw [hg]; exact Nat.ne_of_gt (IsS66.lt (show IsS66 w0 _ g s0_0 s0_1 from is66_)) : gb199 ≠ g)); replace HI0 := Aside0.mk (IsS66.below is66_ hb); clear hb hbox hg) | ((with_reducible refine gate_callee (f := 65) rfl ?_); refine gl_ 5 Try.func65 #[.pointer (some ⟨g, 0, none⟩)] ?_; (with_reducible refine (spec_l13Affix.calls k g s0_0 s0_1 t200 t201 t202 t203 t204 t205 w0 _ ?side1 ?side2 A2.out).mono ?_); (case side1 => exact is66_); (case side2 => exact bs_); rintro e w64 ⟨rfl, hi, hb, hk⟩; refine ⟨_, rfl, ?_⟩; replace BK199 := Aside0.mk (KeepBut.blk hk (g' := gb199) (o := .cells #[.string (⟨#[]⟩ : ByteArray), .bool false, .string (⟨#[]⟩ : ByteArray), .string (⟨#[]⟩ : ByteArray), .string (⟨#[]⟩ : ByteArray)] 68 (0, 0)) (bk_ BK199) NB199_0.out (by simp)); replace HK := Aside0.mk (KeepBut.trans kp_ hk (.inl rfl)); replace HB := Aside0.mk (hb); replace HI0 := Aside0.mk (hi); (try clear hb); (try clear hb2); (try clear hk); (try clear hi)) | ((with_reducible refine gate_dst (N := 3) rfl ?_); refine be_ 3 68 #[.string (⟨#[]⟩ : ByteArray), .bool false, .string (⟨#[]⟩ : ByteArray), .string (⟨#[]⟩ : ByteArray), .string (⟨#[]⟩ : ByteArray)] ?_; intro gb206 hg w65 hbox hb; replace HB := Aside0.mk (below_step bs_ hb); have BK206 := Aside0.mk (hbox); have GW206 := Aside0.mk ((gk_ hg : w.heap.size ≤ gb206)); have GE206 := Aside0.mk ((Nat.le_trans HW0.out (gk_ hg : w.heap.size ≤ gb206) : w0.heap.size ≤ gb206)); replace HK := Aside0.mk (KeepBut.trans kp_ (KeepBut.of_below hb g none) (.inl rfl)); have NB199_206 := Aside0.mk ((by rw [hg]; exact Nat.ne_of_lt (blk_lt (bk_ BK199)) : gb199 ≠ gb206)); have NB206_199 := Aside0.mk ((by rw [hg]; exact Nat.ne_of_gt (blk_lt (bk_ BK199)) : gb206 ≠ gb199)); replace BK199 := Aside0.mk (blk_below (bk_ BK199) hb); have NB0_206 := Aside0.mk ((by rw [hg]; exact Nat.ne_of_lt (IsS66.lt (show IsS66 w0 _ g s0_0 t205 from is66_)) : g ≠ gb206)); have NB206_0 := Aside0.mk ((by rw [hg]; exact Nat.ne_of_gt (IsS66.lt (show IsS66 w0 _ g s0_0 t205 from is66_)) : gb206 ≠ g)); replace HI0 := Aside0.mk (IsS66.below is66_ hb); clear hb hbox hg; have hnb66 := NB206_199.out; have hnc66 := NB199_206.out; have hnb67 := NB206_0.out; have hnc67 := NB0_206.out; have hcz68_0 := bc0_ BK206; have hcz68_1 := bc1_ BK206; have hcz68_2 := bc2_ BK206; have hcz68_3 := bc3_ BK206; have hcz68_4 := bc4_ BK206; have hfz68_0 := blk_frozen BK206.out 0; have hfz68_1 := blk_frozen BK206.out 1; have hfz68_2 := blk_frozen BK206.out 2; have hfz68_3 := blk_frozen BK206.out 3; have hfz68_4 := blk_frozen BK206.out 4) | ((with_reducible refine gate_callee (f := 20) rfl ?_); refine gl_ 7 Try.func20 #[.pointer (some ⟨g, 0, none⟩), .int .i64 12] ?_; (with_reducible refine (spec_l1Rd_pick.calls k g s0_0 t205 12 t207 t208 w0 _ ?side1 ?side2 A3.out).mono ?_); (case side1 => exact is66_); (case side2 => exact bs_); rintro e w69 ⟨rfl, hi, hb, hk⟩; refine ⟨_, rfl, ?_⟩; replace BK199 := Aside0.mk (KeepBut.blk hk (g' := gb199) (o := .cells #[.string (⟨#[]⟩ : ByteArray), .bool false, .string (⟨#[]⟩ : ByteArray), .string (⟨#[]⟩ : ByteArray), .string (⟨#[]⟩ : ByteArray)] 68 (0, 0)) bq_ NB199_0.out (by simp)); replace BK206 := Aside0.mk (KeepBut.blk hk (g' := gb206) (o := .cells #[.string t200, .bool t201, .string t202, .string t203, .string t204] 68 (0, 0)) bq_ NB206_0.out (by simp)); replace HK := Aside0.mk (KeepBut.trans kp_ hk (.inl rfl)); replace HB := Aside0.mk (hb); replace HI0 := Aside0.mk (hi); (try clear hb); (try clear hb2); (try clear hk); (try clear hi); have hcz70_0 := bc0_ BK206; have hcz70_1 := bc1_ BK206; have hcz70_2 := bc2_ BK206; have hcz70_3 := bc3_ BK206; have hcz70_4 := bc4_ BK206; have hfz70_0 := blk_frozen BK206.out 0; have hfz70_1 := blk_frozen BK206.out 1; have hfz70_2 := blk_frozen BK206.out 2; have hfz70_3 := blk_frozen BK206.out 3; have hfz70_4 := blk_frozen BK206.out 4; have hnb71 := NB199_0.out; have hnc71 := NB0_199.out; have hcz72_0 := bc0_ BK199; have hcz72_1 := bc1_ BK199; have hcz72_2 := bc2_ BK199; have hcz72_3 := bc3_ BK199; have hcz72_4 := bc4_ BK199; have hfz72_0 := blk_frozen BK199.out 0; have hfz72_1 := blk_frozen BK199.out 1; have hfz72_2 := blk_frozen BK199.out 2; have hfz72_3 := blk_frozen BK199.out 3; have hfz72_4 := blk_frozen BK199.out 4))
   refine bodyPost_ret (results_cell_row rfl _ _ gb199 68 #[.string t200, .bool t201, .string t202, .string t203, .string t204] (0, 0) _ rfl bq_ Try.underlying68 rfl (by kernel_rfl)) rfl ?_
   exact ⟨rfe_, is66_, bs_, kp_⟩
 have c52b0 : (t207 == 3) = true := beq_iff_eq.mpr c52
 have c52b1 : (t207 != 3) = false := bne_eq_false_iff_eq.mpr c52
 clear c52
 simp only [Option.some.injEq, Prod.mk.injEq] at H
 obtain ⟨rfl, rfl, rfl, rfl, rfl, rfl⟩ := H
 go_enter Try.func40, Try.ntmps40
 go_wp2_with (first | ((with_reducible refine gate_dst (N := 2) rfl ?_); refine be_ 2 68 #[.string (⟨#[]⟩ : ByteArray), .bool false, .string (⟨#[]⟩ : ByteArray), .string (⟨#[]⟩ : ByteArray), .string (⟨#[]⟩ : ByteArray)] ?_; intro gb199 hg w53 hbox hb; replace HB := Aside0.mk (below_step bs_ hb); have BK199 := Aside0.mk (hbox); have GW199 := Aside0.mk ((gk_ hg : w.heap.size ≤ gb199)); have GE199 := Aside0.mk ((Nat.le_trans HW0.out (gk_ hg : w.heap.size ≤ gb199) : w0.heap.size ≤ gb199)); replace HK := Aside0.mk (KeepBut.trans kp_ (KeepBut.of_below hb g none) (.inl rfl)); have NB0_199 := Aside0.mk ((by rw [hg]; exact Nat.ne_of_lt (IsS66.lt (show IsS66 w0 _ g s0_0 s0_1 from is66_)) : g ≠ gb199)); have NB199_0 := Aside0.mk ((by rw [hg]; exact Nat.ne_of_gt (IsS66.lt (show IsS66 w0 _ g s0_0 s0_1 from is66_)) : gb199 ≠ g)); replace HI0 := Aside0.mk (IsS66.below is66_ hb); clear hb hbox hg) | ((with_reducible refine gate_callee (f := 65) rfl ?_); refine gl_ 5 Try.func65 #[.pointer (some ⟨g, 0, none⟩)] ?_; (with_reducible refine (spec_l13Affix.calls k g s0_0 s0_1 t200 t201 t202 t203 t204 t205 w0 _ ?side1 ?side2 A2.out).mono ?_); (case side1 => exact is66_); (case side2 => exact bs_); rintro e w54 ⟨rfl, hi, hb, hk⟩; refine ⟨_, rfl, ?_⟩; replace BK199 := Aside0.mk (KeepBut.blk hk (g' := gb199) (o := .cells #[.string (⟨#[]⟩ : ByteArray), .bool false, .string (⟨#[]⟩ : ByteArray), .string (⟨#[]⟩ : ByteArray), .string (⟨#[]⟩ : ByteArray)] 68 (0, 0)) (bk_ BK199) NB199_0.out (by simp)); replace HK := Aside0.mk (KeepBut.trans kp_ hk (.inl rfl)); replace HB := Aside0.mk (hb); replace HI0 := Aside0.mk (hi); (try clear hb); (try clear hb2); (try clear hk); (try clear hi)) | ((with_reducible refine gate_dst (N := 3) rfl ?_); refine be_ 3 68 #[.string (⟨#[]⟩ : ByteArray), .bool false, .string (⟨#[]⟩ : ByteArray), .string (⟨#[]⟩ : ByteArray), .string (⟨#[]⟩ : ByteArray)] ?_; intro gb206 hg w55 hbox hb; replace HB := Aside0.mk (below_step bs_ hb); have BK206 := Aside0.mk (hbox); have GW206 := Aside0.mk ((gk_ hg : w.heap.size ≤ gb206)); have GE206 := Aside0.mk ((Nat.le_trans HW0.out (gk_ hg : w.heap.size ≤ gb206) : w0.heap.size ≤ gb206)); replace HK := Aside0.mk (KeepBut.trans kp_ (KeepBut.of_below hb g none) (.inl rfl)); have NB199_206 := Aside0.mk ((by rw [hg]; exact Nat.ne_of_lt (blk_lt (bk_ BK199)) : gb199 ≠ gb206)); have NB206_199 := Aside0.mk ((by rw [hg]; exact Nat.ne_of_gt (blk_lt (bk_ BK199)) : gb206 ≠ gb199)); replace BK199 := Aside0.mk (blk_below (bk_ BK199) hb); have NB0_206 := Aside0.mk ((by rw [hg]; exact Nat.ne_of_lt (IsS66.lt (show IsS66 w0 _ g s0_0 t205 from is66_)) : g ≠ gb206)); have NB206_0 := Aside0.mk ((by rw [hg]; exact Nat.ne_of_gt (IsS66.lt (show IsS66 w0 _ g s0_0 t205 from is66_)) : gb206 ≠ g)); replace HI0 := Aside0.mk (IsS66.below is66_ hb); clear hb hbox hg; have hnb56 := NB206_199.out; have hnc56 := NB199_206.out; have hnb57 := NB206_0.out; have hnc57 := NB0_206.out; have hcz58_0 := bc0_ BK206; have hcz58_1 := bc1_ BK206; have hcz58_2 := bc2_ BK206; have hcz58_3 := bc3_ BK206; have hcz58_4 := bc4_ BK206; have hfz58_0 := blk_frozen BK206.out 0; have hfz58_1 := blk_frozen BK206.out 1; have hfz58_2 := blk_frozen BK206.out 2; have hfz58_3 := blk_frozen BK206.out 3; have hfz58_4 := blk_frozen BK206.out 4) | ((with_reducible refine gate_callee (f := 20) rfl ?_); refine gl_ 7 Try.func20 #[.pointer (some ⟨g, 0, none⟩), .int .i64 12] ?_; (with_reducible refine (spec_l1Rd_pick.calls k g s0_0 t205 12 t207 t208 w0 _ ?side1 ?side2 A3.out).mono ?_); (case side1 => exact is66_); (case side2 => exact bs_); rintro e w59 ⟨rfl, hi, hb, hk⟩; refine ⟨_, rfl, ?_⟩; replace BK199 := Aside0.mk (KeepBut.blk hk (g' := gb199) (o := .cells #[.string (⟨#[]⟩ : ByteArray), .bool false, .string (⟨#[]⟩ : ByteArray), .string (⟨#[]⟩ : ByteArray), .string (⟨#[]⟩ : ByteArray)] 68 (0, 0)) bq_ NB199_0.out (by simp)); replace BK206 := Aside0.mk (KeepBut.blk hk (g' := gb206) (o := .cells #[.string t200, .bool t201, .string t202, .string t203, .string t204] 68 (0, 0)) bq_ NB206_0.out (by simp)); replace HK := Aside0.mk (KeepBut.trans kp_ hk (.inl rfl)); replace HB := Aside0.mk (hb); replace HI0 := Aside0.mk (hi); (try clear hb); (try clear hb2); (try clear hk); (try clear hi); have hcz60_0 := bc0_ BK206; have hcz60_1 := bc1_ BK206; have hcz60_2 := bc2_ BK206; have hcz60_3 := bc3_ BK206; have hcz60_4 := bc4_ BK206; have hfz60_0 := blk_frozen BK206.out 0; have hfz60_1 := blk_frozen BK206.out 1; have hfz60_2 := blk_frozen BK206.out 2; have hfz60_3 := blk_frozen BK206.out 3; have hfz60_4 := blk_frozen BK206.out 4; have hnb61 := NB199_0.out; have hnc61 := NB0_199.out; have hcz62_0 := bc0_ BK199; have hcz62_1 := bc1_ BK199; have hcz62_2 := bc2_ BK199; have hcz62_3 := bc3_ BK199; have hcz62_4 := bc4_ BK199; have hfz62_0 := blk_frozen BK199.out 0; have hfz62_1 := blk_frozen BK199.out 1; have hfz62_2 := blk_frozen BK199.out 2; have hfz62_3 := blk_frozen BK199.out 3; have hfz62_4 := blk_frozen BK199.out 4))
 refine bodyPost_ret (results_cell_row rfl _ _ gb199 68 #[.string t200, .bool (!t201), .string t202, .string t203, .string t204] (0, 0) _ rfl bq_ Try.underlying68 rfl (by kernel_rfl)) rfl ?_
 exact ⟨rfe_, is66_, bs_, kp_⟩

end Go.Proofs.Ytbopiacjioedeaa.P
