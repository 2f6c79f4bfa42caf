-- Written by a program of this session (wip/gen/gen.py) out of Lean's print of the loaded program; Lean checks it.
import Derived.Test.YtlmbmfnimpjgmaaDoorP0
import Derived.Test.YtlmbmfnimpjgmaaDoorSq2
import Derived.Test.YtlmbmfnimpjgmaaDoorP1
import Derived.Test.YtlmbmfnimpjgmaaDoorP3
namespace Go.Proofs.YtlmbmfnimpjgmaaDoor.P
open Go.RowKit Go.Proofs.YtlmbmfnimpjgmaaDoorW.PrintWords Go.Proofs.YtlmbmfnimpjgmaaDoorW.PrintLast Go.Proofs.YtlmbmfnimpjgmaaDoorW.PrintMore
attribute [local go_sem] max2_int min2_int max_two min_two max_three min_three max_four min_four IntKind.wrap_u8 IntKind.wrap_u32 w64_256 w64_u32
set_option maxHeartbeats 8000000
set_option maxRecDepth 100000
set_option linter.unusedVariables false
set_option linter.unusedSimpArgs false

/-! ### spec_l13Pattern: function 44 -/
def spec_l13Pattern.f (k : Nat) (s0_0 : List Int) (s0_1 : Int) : Option (ByteArray × List Int × Int) := (spec_l1Rd_of.f k s0_0 s0_1 (([(⟨#[49, 110, 97]⟩ : ByteArray), (⟨#[50, 99, 116]⟩ : ByteArray), (⟨#[97, 49, 98]⟩ : ByteArray), (⟨#[49, 107, 105]⟩ : ByteArray), (⟨#[46, 117, 110, 49]⟩ : ByteArray), (⟨#[52, 116, 115, 46]⟩ : ByteArray), (⟨#[111, 49, 105]⟩ : ByteArray), (⟨#[99, 49, 116]⟩ : ByteArray), (⟨#[97, 50, 98, 49, 99]⟩ : ByteArray), (⟨#[49, 105, 110, 103, 46]⟩ : ByteArray), (⟨#[51, 115, 46]⟩ : ByteArray)] : List ByteArray))).bind fun bt168 => ((spec_PatternGet.f k bt168.1).bind fun bt170 => (some (bt170.1, bt170.2.1, bt168.2)))
theorem spec_l13Pattern.mono : ∀ a0 a1 k, LeO (spec_l13Pattern.f k a0 a1) (spec_l13Pattern.f (k + 1) a0 a1) := by
 intro a0 a1 k
 unfold spec_l13Pattern.f
 have m0 := @spec_PatternGet.mono
 have m1 := @spec_l1Rd_of.mono
 exact mn_
theorem spec_l13Pattern.calls (k : Nat) (g : Nat) (s0_0 : List Int) (s0_1 : Int) (r1 : ByteArray) (r2 : List Int) (r3 : Int) (w0 w : World) (hI : IsS58 w0 w g s0_0 s0_1) (hB : Below w0.heap.size w0 w) (h : spec_l13Pattern.f k s0_0 s0_1 = some (r1, r2, r3)) :
 Calls Tryd.prog 44 #[.pointer (some ⟨g, 0, none⟩)] w fun e w' => ∃ v1_ : Value, e = .returned (.agg #[.string r1, v1_]) ∧ Kd.R (Kd.int .i64) 3 w' w.heap.size (fun _ => True) v1_ r2 ∧ IsS58 w0 w' g s0_0 r3 ∧ Below w0.heap.size w0 w' ∧ KeepBut w w' g none := by
 have hu42 := Tryd.underlying42
 have HI0 := Aside0.mk hI
 have HK := Aside0.mk (KeepBut.refl w g none)
 have HL := Aside0.mk hB.size
 clear hI
 have HW0 := Aside0.mk hB.size
 have HB := Aside0.mk hB
 clear hB
 unfold spec_l13Pattern.f at h; have H := h; clear h
 obtain ⟨y165, hy_⟩ : ∃ y_ : List ByteArray, y_ = (([(⟨#[49, 110, 97]⟩ : ByteArray), (⟨#[50, 99, 116]⟩ : ByteArray), (⟨#[97, 49, 98]⟩ : ByteArray), (⟨#[49, 107, 105]⟩ : ByteArray), (⟨#[46, 117, 110, 49]⟩ : ByteArray), (⟨#[52, 116, 115, 46]⟩ : ByteArray), (⟨#[111, 49, 105]⟩ : ByteArray), (⟨#[99, 49, 116]⟩ : ByteArray), (⟨#[97, 50, 98, 49, 99]⟩ : ByteArray), (⟨#[49, 105, 110, 103, 46]⟩ : ByteArray), (⟨#[51, 115, 46]⟩ : ByteArray)] : List ByteArray)) := ⟨_, rfl⟩
 replace H : ((spec_l1Rd_of.f k s0_0 s0_1 y165).bind fun bt168 => ((spec_PatternGet.f k bt168.1).bind fun bt170 => (some (bt170.1, bt170.2.1, bt168.2)))) = some (r1, r2, r3) := ry_
 have Ny165 := Aside0.mk hy_; clear hy_
 replace H := Option.bind_eq_some_iff.mp H
 obtain ⟨⟨t168, t169⟩, A20, H⟩ := H; try dsimp -simprocs only at H
 have A2 := Aside0.mk A20
 clear A20
 replace H := Option.bind_eq_some_iff.mp H
 obtain ⟨⟨t170, t171, t174⟩, A30, H⟩ := H; try dsimp -simprocs only at H
 have A3 := Aside0.mk A30
 clear A30
 simp only [Option.some.injEq, Prod.mk.injEq] at H
 obtain ⟨rfl, rfl, rfl⟩ := H
 go_enter Tryd.func44, Tryd.ntmps44
 go_wp2_with (first | ((with_reducible refine gate_dst (N := 2) rfl ?_); refine be_ 2 42 #[.string (⟨#[]⟩ : ByteArray), .slice none 0 0] ?_; intro gb164 hg w4 hbox hb; replace HB := Aside0.mk (below_step bs_ hb); have BK164 := Aside0.mk (hbox); have GW164 := Aside0.mk ((gk_ hg : w.heap.size ≤ gb164)); have GE164 := Aside0.mk ((Nat.le_trans HW0.out (gk_ hg : w.heap.size ≤ gb164) : w0.heap.size ≤ gb164)); replace HK := Aside0.mk (KeepBut.trans kp_ (KeepBut.of_below hb g none) (.inl rfl)); have NB0_164 := Aside0.mk ((by rw [hg]; exact Nat.ne_of_lt (IsS58.lt (show IsS58 w0 _ g s0_0 s0_1 from is58_)) : g ≠ gb164)); have NB164_0 := Aside0.mk ((by rw [hg]; exact Nat.ne_of_gt (IsS58.lt (show IsS58 w0 _ g s0_0 s0_1 from is58_)) : gb164 ≠ g)); replace HI0 := Aside0.mk (IsS58.below is58_ hb); clear hb hbox hg) | ((with_reducible refine gate_dst (N := 7) rfl ?_); refine rl_ Kd.string 9 7 ([(⟨#[49, 110, 97]⟩ : ByteArray), (⟨#[50, 99, 116]⟩ : ByteArray), (⟨#[97, 49, 98]⟩ : ByteArray), (⟨#[49, 107, 105]⟩ : ByteArray), (⟨#[46, 117, 110, 49]⟩ : ByteArray), (⟨#[52, 116, 115, 46]⟩ : ByteArray), (⟨#[111, 49, 105]⟩ : ByteArray), (⟨#[99, 49, 116]⟩ : ByteArray), (⟨#[97, 50, 98, 49, 99]⟩ : ByteArray), (⟨#[49, 105, 110, 103, 46]⟩ : ByteArray), (⟨#[51, 115, 46]⟩ : ByteArray)] : List ByteArray) [.string (⟨#[49, 110, 97]⟩ : ByteArray), .string (⟨#[50, 99, 116]⟩ : ByteArray), .string (⟨#[97, 49, 98]⟩ : ByteArray), .string (⟨#[49, 107, 105]⟩ : ByteArray), .string (⟨#[46, 117, 110, 49]⟩ : ByteArray), .string (⟨#[52, 116, 115, 46]⟩ : ByteArray), .string (⟨#[111, 49, 105]⟩ : ByteArray), .string (⟨#[99, 49, 116]⟩ : ByteArray), .string (⟨#[97, 50, 98, 49, 99]⟩ : ByteArray), .string (⟨#[49, 105, 110, 103, 46]⟩ : ByteArray), .string (⟨#[51, 115, 46]⟩ : ByteArray)] ?_; intro v166 w5 ho6 hb hg_ hnew_; clear hg_ hnew_; (first | rw [← Ny165.out] at ho6 | (simp only [Int.reduceToNat] at ho6; rw [← Ny165.out] at ho6)); have HO167 := Aside0.mk (Kd.R_lower ho6 ks_); replace BK164 := Aside0.mk (blk_below (bk_ BK164) hb); replace HK := Aside0.mk (KeepBut.trans kp_ (KeepBut.of_below hb g none) (.inl rfl)); replace HB := Aside0.mk (below_step bs_ hb); replace HI0 := Aside0.mk (IsS58.below is58_ hb); clear hb ho6; obtain ⟨Ao7, co7, eo7⟩ := Kd.R_slice HO167.out; subst eo7) | ((with_reducible refine gate_callee (f := 42) rfl ?_); refine gl_ 8 Tryd.func42 #[.pointer (some ⟨g, 0, none⟩), .slice Ao7 y165.length co7] ?_; (with_reducible refine (spec_l1Rd_of.calls k g s0_0 s0_1 _ _ y165 t168 t169 w0 _ ?side1 ?side2 ?side3 ?side4 ?side5 A2.out).mono ?_); (case side1 => exact is58_); (case side2 => exact bs_); (case side3 => exact cr_ HO167); (case side4 => exact (Kd.R_reads' HO167.out).2.1); (case side5 => exact far_slice (IsS58.own_ne HI0.out HO167.out (by decide))); rintro e w8 ⟨rfl, hi, hb, hk⟩; refine ⟨_, rfl, ?_⟩; replace BK164 := Aside0.mk (KeepBut.blk hk (g' := gb164) (o := .cells #[.string (⟨#[]⟩ : ByteArray), .slice none 0 0] 42 (0, 0)) (bk_ BK164) NB164_0.out (by simp)); replace HO167 := Aside0.mk (kaR58_ (kR_ HO167) hk); replace HK := Aside0.mk (KeepBut.trans kp_ hk (.inl rfl)); replace HB := Aside0.mk (hb); replace HI0 := Aside0.mk (hi); (try clear hb); (try clear hb2); (try clear hk); (try clear hi)) | ((with_reducible refine gate_callee (f := 59) rfl ?_); refine gl_ 9 Tryd.func59 #[.string t168] ?_; (with_reducible refine (spec_PatternGet.calls k t168 t170 t171 t174 _ A3.out).mono ?_); rintro e w9 ⟨v172, rfl, ho0, hb⟩; refine ⟨_, rfl, ?_⟩; replace HO167 := Aside0.mk (Kd.R_below (kR_ HO167) hb); have HO173 := Aside0.mk (Kd.R_lower ho0 ks_); replace BK164 := Aside0.mk (blk_below (bk_ BK164) hb); replace HK := Aside0.mk (KeepBut.trans kp_ (KeepBut.of_below hb g none) (.inl rfl)); replace HB := Aside0.mk (below_step bs_ hb); replace HI0 := Aside0.mk (IsS58.below is58_ hb); (try clear hb); (try clear hb2); (try clear hk); (try clear hi); (try clear ho0)) | ((with_reducible refine gate_dst (N := 3) rfl ?_); refine be_ 3 42 #[.string (⟨#[]⟩ : ByteArray), .slice none 0 0] ?_; intro gb175 hg w10 hbox hb; replace HO167 := Aside0.mk (Kd.R_below (kR_ HO167) hb); replace HO173 := Aside0.mk (Kd.R_below (kR_ HO173) hb); replace HB := Aside0.mk (below_step bs_ hb); have BK175 := Aside0.mk (hbox); have GW175 := Aside0.mk ((gk_ hg : w.heap.size ≤ gb175)); have GE175 := Aside0.mk ((Nat.le_trans HW0.out (gk_ hg : w.heap.size ≤ gb175) : w0.heap.size ≤ gb175)); replace HK := Aside0.mk (KeepBut.trans kp_ (KeepBut.of_below hb g none) (.inl rfl)); have NB164_175 := Aside0.mk ((by rw [hg]; exact Nat.ne_of_lt (blk_lt (bk_ BK164)) : gb164 ≠ gb175)); have NB175_164 := Aside0.mk ((by rw [hg]; exact Nat.ne_of_gt (blk_lt (bk_ BK164)) : gb175 ≠ gb164)); replace BK164 := Aside0.mk (blk_below (bk_ BK164) hb); have NB0_175 := Aside0.mk ((by rw [hg]; exact Nat.ne_of_lt (IsS58.lt (show IsS58 w0 _ g s0_0 t169 from is58_)) : g ≠ gb175)); have NB175_0 := Aside0.mk ((by rw [hg]; exact Nat.ne_of_gt (IsS58.lt (show IsS58 w0 _ g s0_0 t169 from is58_)) : gb175 ≠ g)); replace HI0 := Aside0.mk (IsS58.below is58_ hb); clear hb hbox hg; have hnb11 := NB175_164.out; have hnc11 := NB164_175.out; have hnb12 := NB175_0.out; have hnc12 := NB0_175.out; have hcz13_0 := bc0_ BK175; have hcz13_1 := bc1_ BK175; have hfz13_0 := blk_frozen BK175.out 0; have hfz13_1 := blk_frozen BK175.out 1; obtain ⟨Ao14, co14, eo14⟩ := Kd.R_slice HO173.out; subst eo14; have hnb15 := NB164_0.out; have hnc15 := NB0_164.out; have hcz16_0 := bc0_ BK164; have hcz16_1 := bc1_ BK164; have hfz16_0 := blk_frozen BK164.out 0; have hfz16_1 := blk_frozen BK164.out 1))
 refine bodyPost_ret (results_cell_row rfl _ _ gb164 42 #[.string t170, .slice Ao14 t171.length co14] (0, 0) _ rfl bq_ Tryd.underlying42 rfl (by kernel_rfl)) rfl ?_
 exact ⟨_, rfe_, by (with_reducible repeat (first | apply Kd.R_alloc | apply Kd.R_drewN | apply Kd.R_drew)); exact Kd.R_mono (Kd.R_far (p := ⟨gb164, 1, none⟩) (Kd.R_far (p := ⟨gb164, 0, none⟩) (Kd.R_far (p := ⟨gb175, 1, none⟩) (Kd.R_far (p := ⟨gb175, 0, none⟩) (Kd.R_types (Kd.R_types HO173.out BK175.out (by decide)) BK164.out (by decide)) (fun _ hk => hk.1.2) (.string t170)) (fun _ hk => hk.1.2) (.slice Ao14 t171.length co14)) (fun _ hk => hk.2) (.string t170)) (fun _ hk => hk.2) (.slice Ao14 t171.length co14)) (fun _ hk => trivial), is58_, bs_, kp_⟩

/-! ### spec_l1Rd_one: function 29 -/
def spec_l1Rd_one.f (k : Nat) (s0_0 : List Int) (s0_1 : Int) (l1 : List Int) : Option (Int × Int) := (spec_l1Rd_pick.f k s0_0 s0_1 (l1.length : Int)).bind fun bt176 => (if 0 ≤ bt176.1 then (if bt176.1 < (l1.length : Int) then (some (rd l1 bt176.1, bt176.2)) else (none)) else (none))
theorem spec_l1Rd_one.mono : ∀ a0 a1 a2 k, LeO (spec_l1Rd_one.f k a0 a1 a2) (spec_l1Rd_one.f (k + 1) a0 a1 a2) := by
 intro a0 a1 a2 k
 unfold spec_l1Rd_one.f
 have m0 := @spec_l1Rd_pick.mono
 exact mn_
theorem spec_l1Rd_one.calls (k : Nat) (g : Nat) (s0_0 : List Int) (s0_1 : Int) (A1 : Option Addr) (c1 : Nat) (l1 : List Int) (r1 : Int) (r2 : Int) (w0 w : World) (hI : IsS58 w0 w g s0_0 s0_1) (hB : Below w0.heap.size w0 w) (hr1 : Kd.C (Kd.int .i64) w A1 l1.length l1) (hc1 : l1.length ≤ c1) (hf1 : ∀ ad, A1 = some ad → 0 < l1.length → ad.block ≠ g) (h : spec_l1Rd_one.f k s0_0 s0_1 l1 = some (r1, r2)) :
 Calls Tryd.prog 29 #[.pointer (some ⟨g, 0, none⟩), .slice A1 l1.length c1] w fun e w' => e = .returned (.int .i64 r1) ∧ IsS58 w0 w' g s0_0 r2 ∧ Below w0.heap.size w0 w' ∧ KeepBut w w' g none := by
 have HR1 := Aside0.mk hr1
 have HC1 := Aside0.mk hc1
 clear hr1 hc1
 have HI0 := Aside0.mk hI
 have HK := Aside0.mk (KeepBut.refl w g none)
 have HL := Aside0.mk hB.size
 clear hI
 have HW0 := Aside0.mk hB.size
 have HB := Aside0.mk hB
 clear hB
 unfold spec_l1Rd_one.f at h; have H := h; clear h
 replace H := Option.bind_eq_some_iff.mp H
 obtain ⟨⟨t176, t177⟩, A30, H⟩ := H; try dsimp -simprocs only at H
 have A3 := Aside0.mk A30
 clear A30
 replace H := ind_ H; obtain ⟨c4b0, H⟩ := H
 replace H := ind_ H; obtain ⟨c5b0, H⟩ := H
 simp only [Option.some.injEq, Prod.mk.injEq] at H
 obtain ⟨rfl, rfl⟩ := H
 go_enter Tryd.func29, Tryd.ntmps29
 go_wp2_with (first | ((with_reducible refine gate_callee (f := 25) rfl ?_); refine gl_ 9 Tryd.func25 #[.pointer (some ⟨g, 0, none⟩), .int .i64 (l1.length : Int)] ?_; (with_reducible refine (spec_l1Rd_pick.calls k g s0_0 s0_1 (l1.length : Int) t176 t177 w0 _ ?side1 ?side2 A3.out).mono ?_); (case side1 => exact is58_); (case side2 => exact bs_); rintro e w6 ⟨rfl, hi, hb, hk⟩; refine ⟨_, rfl, ?_⟩; replace HK := Aside0.mk (KeepBut.trans kp_ hk (.inl rfl)); replace HB := Aside0.mk (hb); replace HI0 := Aside0.mk (hi); (try clear hb); (try clear hb2); (try clear hk); (try clear hi); have p178 : 0 ≤ (t176 : Int) := od_; have q178 : t176 < (l1.length : Int) := od_; obtain ⟨ad178, e178, hx178_0⟩ := Kd.at_int HR1.out t176 p178 q178; cases e178; replace hx178_0 := keep_cell HK.out hx178_0 (by first | (rw [add_block]; exact hf1 _ rfl (by omega)) | exact hf1 _ rfl (by omega) | exact hf1 ad178 rfl (by omega)); replace p178 := eq_true p178; replace q178 := eq_true q178))
 go_ret
 exact ⟨rfe_, is58_, bs_, kp_⟩

/-! ### spec_l13AnyPattern: function 45 -/
def spec_l13AnyPattern.f (k : Nat) (s0_0 : List Int) (s0_1 : Int) : Option (ByteArray × List Int × Int) := (spec_l13Pattern.f k s0_0 s0_1).bind fun bt180 => ((some (([] : List Int) : List Int)).bind fun y186 => (if y186.length + bt180.2.1.length < 17592186044416 then ((some (y186 ++ bt180.2.1 : List Int)).bind fun y189 => ((spec_l1Rd_pick.f k s0_0 bt180.2.2 10).bind fun bt192 => (if bt192.1 = 0 then ((spec_l1Rd_of.f k s0_0 bt192.2 (([(⟨#[]⟩ : ByteArray), (⟨#[65]⟩ : ByteArray), (⟨#[97, 46, 98]⟩ : ByteArray), (⟨#[46, 46]⟩ : ByteArray), (⟨#[97, 98, 99, 100, 101, 102, 103, 104, 105]⟩ : ByteArray)] : List ByteArray))).bind fun bt197 => (some (bt197.1, y189, bt197.2))) else (if bt192.1 = 1 then ((spec_l1Rd_one.f k s0_0 bt192.2 (([(-1), 10, 9] : List Int))).bind fun bt202 => (if 0 < (y189.length : Int) then (some (bt180.1, (y189.set (0 : Int).toNat bt202.1), bt202.2)) else (none))) else (if bt192.1 = 2 then (if y189.length < 17592186044416 then (some (bt180.1, (y189 ++ [1]), bt192.2)) else (none)) else (some (bt180.1, y189, bt192.2))))))) else (none)))
theorem spec_l13AnyPattern.mono : ∀ a0 a1 k, LeO (spec_l13AnyPattern.f k a0 a1) (spec_l13AnyPattern.f (k + 1) a0 a1) := by
 intro a0 a1 k
 unfold spec_l13AnyPattern.f
 have m0 := @spec_l13Pattern.mono
 have m1 := @spec_l1Rd_of.mono
 have m2 := @spec_l1Rd_one.mono
 have m3 := @spec_l1Rd_pick.mono
 exact mn_
theorem spec_l13AnyPattern.calls (k : Nat) (g : Nat) (s0_0 : List Int) (s0_1 : Int) (r1 : ByteArray) (r2 : List Int) (r3 : Int) (w0 w : World) (hI : IsS58 w0 w g s0_0 s0_1) (hB : Below w0.heap.size w0 w) (h : spec_l13AnyPattern.f k s0_0 s0_1 = some (r1, r2, r3)) :
 Calls Tryd.prog 45 #[.pointer (some ⟨g, 0, none⟩)] w fun e w' => ∃ v1_ : Value, e = .returned (.agg #[.string r1, v1_]) ∧ Kd.R (Kd.int .i64) 3 w' w.heap.size (fun _ => True) v1_ r2 ∧ IsS58 w0 w' g s0_0 r3 ∧ Below w0.heap.size w0 w' ∧ KeepBut w w' g none := by
 have hu42 := Tryd.underlying42
 have HI0 := Aside0.mk hI
 have HK := Aside0.mk (KeepBut.refl w g none)
 have HL := Aside0.mk hB.size
 clear hI
 have HW0 := Aside0.mk hB.size
 have HB := Aside0.mk hB
 clear hB
 unfold spec_l13AnyPattern.f at h; have H := h; clear h
 replace H := Option.bind_eq_some_iff.mp H
 obtain ⟨⟨t180, t181, t184⟩, A20, H⟩ := H; try dsimp -simprocs only at H
 have A2 := Aside0.mk A20
 clear A20
 obtain ⟨y186, hy_⟩ : ∃ y_ : List Int, y_ = (([] : List Int)) := ⟨_, rfl⟩
 replace H : (if y186.length + t181.length < 17592186044416 then ((some (y186 ++ t181 : List Int)).bind fun y189 => ((spec_l1Rd_pick.f k s0_0 t184 10).bind fun bt192 => (if bt192.1 = 0 then ((spec_l1Rd_of.f k s0_0 bt192.2 (([(⟨#[]⟩ : ByteArray), (⟨#[65]⟩ : ByteArray), (⟨#[97, 46, 98]⟩ : ByteArray), (⟨#[46, 46]⟩ : ByteArray), (⟨#[97, 98, 99, 100, 101, 102, 103, 104, 105]⟩ : ByteArray)] : List ByteArray))).bind fun bt197 => (some (bt197.1, y189, bt197.2))) else (if bt192.1 = 1 then ((spec_l1Rd_one.f k s0_0 bt192.2 (([(-1), 10, 9] : List Int))).bind fun bt202 => (if 0 < (y189.length : Int) then (some (t180, (y189.set (0 : Int).toNat bt202.1), bt202.2)) else (none))) else (if bt192.1 = 2 then (if y189.length < 17592186044416 then (some (t180, (y189 ++ [1]), bt192.2)) else (none)) else (some (t180, y189, bt192.2))))))) else (none)) = some (r1, r2, r3) := ry_
 have Ny186 := Aside0.mk hy_; clear hy_
 replace H := inc_ H; obtain ⟨c3, H⟩ := H
 have LMc3 := Aside0.mk c3
 clear c3
 obtain ⟨y189, hy_⟩ : ∃ y_ : List Int, y_ = (y186 ++ t181) := ⟨_, rfl⟩
 replace H : ((spec_l1Rd_pick.f k s0_0 t184 10).bind fun bt192 => (if bt192.1 = 0 then ((spec_l1Rd_of.f k s0_0 bt192.2 (([(⟨#[]⟩ : ByteArray), (⟨#[65]⟩ : ByteArray), (⟨#[97, 46, 98]⟩ : ByteArray), (⟨#[46, 46]⟩ : ByteArray), (⟨#[97, 98, 99, 100, 101, 102, 103, 104, 105]⟩ : ByteArray)] : List ByteArray))).bind fun bt197 => (some (bt197.1, y189, bt197.2))) else (if bt192.1 = 1 then ((spec_l1Rd_one.f k s0_0 bt192.2 (([(-1), 10, 9] : List Int))).bind fun bt202 => (if 0 < (y189.length : Int) then (some (t180, (y189.set (0 : Int).toNat bt202.1), bt202.2)) else (none))) else (if bt192.1 = 2 then (if y189.length < 17592186044416 then (some (t180, (y189 ++ [1]), bt192.2)) else (none)) else (some (t180, y189, bt192.2)))))) = some (r1, r2, r3) := ry_
 have Ny189 := Aside0.mk hy_; clear hy_
 replace H := Option.bind_eq_some_iff.mp H
 obtain ⟨⟨t192, t193⟩, A40, H⟩ := H; try dsimp -simprocs only at H
 have A4 := Aside0.mk A40
 clear A40
 replace H := itcc_ H; rcases H with ⟨c5, H⟩ | ⟨c5, H⟩
 · have c5b0 : (t192 == 0) = true := beq_iff_eq.mpr c5
   have c5b1 : (t192 != 0) = false := bne_eq_false_iff_eq.mpr c5
   clear c5
   obtain ⟨y194, hy_⟩ : ∃ y_ : List ByteArray, y_ = (([(⟨#[]⟩ : ByteArray), (⟨#[65]⟩ : ByteArray), (⟨#[97, 46, 98]⟩ : ByteArray), (⟨#[46, 46]⟩ : ByteArray), (⟨#[97, 98, 99, 100, 101, 102, 103, 104, 105]⟩ : ByteArray)] : List ByteArray)) := ⟨_, rfl⟩
   replace H : ((spec_l1Rd_of.f k s0_0 t193 y194).bind fun bt197 => (some (bt197.1, y189, bt197.2))) = some (r1, r2, r3) := ry_
   have Ny194 := Aside0.mk hy_; clear hy_
   replace H := Option.bind_eq_some_iff.mp H
   obtain ⟨⟨t197, t198⟩, A60, H⟩ := H; try dsimp -simprocs only at H
   have A6 := Aside0.mk A60
   clear A60
   simp only [Option.some.injEq, Prod.mk.injEq] at H
   obtain ⟨rfl, rfl, rfl⟩ := H
   go_enter Tryd.func45, Tryd.ntmps45
   go_wp2_with (first | ((with_reducible refine gate_dst (N := 2) rfl ?_); refine be_ 2 42 #[.string (⟨#[]⟩ : ByteArray), .slice none 0 0] ?_; intro gb179 hg w7 hbox hb; replace HB := Aside0.mk (below_step bs_ hb); have BK179 := Aside0.mk (hbox); have GW179 := Aside0.mk ((gk_ hg : w.heap.size ≤ gb179)); have GE179 := Aside0.mk ((Nat.le_trans HW0.out (gk_ hg : w.heap.size ≤ gb179) : w0.heap.size ≤ gb179)); replace HK := Aside0.mk (KeepBut.trans kp_ (KeepBut.of_below hb g none) (.inl rfl)); have NB0_179 := Aside0.mk ((by rw [hg]; exact Nat.ne_of_lt (IsS58.lt (show IsS58 w0 _ g s0_0 s0_1 from is58_)) : g ≠ gb179)); have NB179_0 := Aside0.mk ((by rw [hg]; exact Nat.ne_of_gt (IsS58.lt (show IsS58 w0 _ g s0_0 s0_1 from is58_)) : gb179 ≠ g)); replace HI0 := Aside0.mk (IsS58.below is58_ hb); clear hb hbox hg) | ((with_reducible refine gate_callee (f := 44) rfl ?_); refine gl_ 5 Tryd.func44 #[.pointer (some ⟨g, 0, none⟩)] ?_; (with_reducible refine (spec_l13Pattern.calls k g s0_0 s0_1 t180 t181 t184 w0 _ ?side1 ?side2 A2.out).mono ?_); (case side1 => exact is58_); (case side2 => exact bs_); rintro e w8 ⟨v182, rfl, ho0, hi, hb, hk⟩; refine ⟨_, rfl, ?_⟩; replace BK179 := Aside0.mk (KeepBut.blk hk (g' := gb179) (o := .cells #[.string (⟨#[]⟩ : ByteArray), .slice none 0 0] 42 (0, 0)) (bk_ BK179) NB179_0.out (by simp)); have HO183 := Aside0.mk (Kd.R_lower ho0 ks_); replace HK := Aside0.mk (KeepBut.trans kp_ hk (.inl rfl)); replace HB := Aside0.mk (hb); replace HI0 := Aside0.mk (hi); (try clear hb); (try clear hb2); (try clear hk); (try clear hi); (try clear ho0)) | ((with_reducible refine gate_dst (N := 3) rfl ?_); refine be_ 3 42 #[.string (⟨#[]⟩ : ByteArray), .slice none 0 0] ?_; intro gb185 hg w9 hbox hb; replace HO183 := Aside0.mk (Kd.R_below (kR_ HO183) hb); replace HB := Aside0.mk (below_step bs_ hb); have BK185 := Aside0.mk (hbox); have GW185 := Aside0.mk ((gk_ hg : w.heap.size ≤ gb185)); have GE185 := Aside0.mk ((Nat.le_trans HW0.out (gk_ hg : w.heap.size ≤ gb185) : w0.heap.size ≤ gb185)); replace HK := Aside0.mk (KeepBut.trans kp_ (KeepBut.of_below hb g none) (.inl rfl)); have NB179_185 := Aside0.mk ((by rw [hg]; exact Nat.ne_of_lt (blk_lt (bk_ BK179)) : gb179 ≠ gb185)); have NB185_179 := Aside0.mk ((by rw [hg]; exact Nat.ne_of_gt (blk_lt (bk_ BK179)) : gb185 ≠ gb179)); replace BK179 := Aside0.mk (blk_below (bk_ BK179) hb); have NB0_185 := Aside0.mk ((by rw [hg]; exact Nat.ne_of_lt (IsS58.lt (show IsS58 w0 _ g s0_0 t184 from is58_)) : g ≠ gb185)); have NB185_0 := Aside0.mk ((by rw [hg]; exact Nat.ne_of_gt (IsS58.lt (show IsS58 w0 _ g s0_0 t184 from is58_)) : gb185 ≠ g)); replace HI0 := Aside0.mk (IsS58.below is58_ hb); clear hb hbox hg; have hnb10 := NB185_179.out; have hnc10 := NB179_185.out; have hnb11 := NB185_0.out; have hnc11 := NB0_185.out; have hcz12_0 := bc0_ BK185; have hcz12_1 := bc1_ BK185; have hfz12_0 := blk_frozen BK185.out 0; have hfz12_1 := blk_frozen BK185.out 1; obtain ⟨Ao13, co13, eo13⟩ := Kd.R_slice HO183.out; subst eo13) | ((with_reducible refine gate_dst (N := 6) rfl ?_); refine rl_ (Kd.int .i64) 3 6 ([] : List Int) [] ?_; intro v187 w14 ho15 hb hg_ hnew_; clear hg_ hnew_; (first | rw [← Ny186.out] at ho15 | (simp only [Int.reduceToNat] at ho15; rw [← Ny186.out] at ho15)); have HO188 := Aside0.mk (Kd.R_lower (Kd.R_new' ho15 (Kd.R_lt (by (with_reducible repeat (first | apply Kd.R_alloc | apply Kd.R_drewN | apply Kd.R_drew)); exact (Kd.R_mono (Kd.R_far (p := ⟨gb185, 1, none⟩) (Kd.R_far (p := ⟨gb185, 0, none⟩) (Kd.R_types HO183.out BK185.out (by decide)) (fun _ hk => hk.2) (.string t180)) (fun _ hk => hk.2) (.slice Ao13 t181.length co13)) (fun _ h_ => h_.1))))) ks_); replace HO183 := Aside0.mk (Kd.R_elder' (by (with_reducible repeat (first | apply Kd.R_alloc | apply Kd.R_drewN | apply Kd.R_drew)); exact (Kd.R_mono (Kd.R_far (p := ⟨gb185, 1, none⟩) (Kd.R_far (p := ⟨gb185, 0, none⟩) (Kd.R_types HO183.out BK185.out (by decide)) (fun _ hk => hk.2) (.string t180)) (fun _ hk => hk.2) (.slice Ao13 t181.length co13)) (fun _ h_ => h_.1))) (Kd.R_base ho15) hb); replace BK179 := Aside0.mk (blk_below (g := gb179) (o := .cells #[.string (⟨#[]⟩ : ByteArray), .slice none 0 0] 42 (0, 0)) bq_ hb); replace BK185 := Aside0.mk (blk_below (g := gb185) (o := .cells #[.string t180, .slice Ao13 t181.length co13] 42 (0, 0)) bq_ hb); replace HK := Aside0.mk (KeepBut.trans kp_ (KeepBut.of_below hb g none) (.inl rfl)); replace HB := Aside0.mk (below_step bs_ hb); replace HI0 := Aside0.mk (IsS58.below (show IsS58 w0 ((w9.setCell ⟨gb185, 0, none⟩ (.string t180)).setCell ⟨gb185, 1, none⟩ (.slice Ao13 t181.length co13)) g s0_0 t184 from is58_) hb); clear hb ho15; have hcz16_0 := bc0_ BK185; have hcz16_1 := bc1_ BK185; have hfz16_0 := blk_frozen BK185.out 0; have hfz16_1 := blk_frozen BK185.out 1) | ((with_reducible refine gate_builtin (b := .append) (xs := #[.tmp 6, .tmp 8]) rfl ?_); at_builtin; refine Kd.R_append_rows (Kd.int .i64) w.heap.size rfl (.tmp 6) (.tmp 8) 29 3 (.int .i64 0) 8 rfl Tryd.underlying29 info3 rfl (by decide) (by omega) v187 y186 t181 _ _ _ (fun k_ => some k_ ≠ (.slice Ao13 t181.length co13 : Value).ownBlock) (fun _ => False) rfl rfl ?aO ?aR (fun _ _ h => h) (fun _ h => h.elim) ?aF (Below.refl _ _) ?aS ?aL ?_; (case aR => exact cr_ HO183); (case aF => exact (fun k_ hk => Kd.fresh' (Kd.R_lt (kR_ HO183)) k_ hk)); (case aO => exact (by (with_reducible repeat (first | apply Kd.R_alloc | apply Kd.R_drewN | apply Kd.R_drew)); exact Kd.R_mono HO188.out (fun _ hk => hk.2))); (case aS => exact ks_); (case aL => have := LMc3.out; omega); intro v190 w17 ho hb hg hat; rw [← Ny189.out] at ho; replace BK179 := Aside0.mk (blk_grown (bk_ BK179) hg (Kd.R_ne HO188.out BK179.out (by decide))); replace HO183 := Aside0.mk (Kd.R_after (ok := (fun _ => True)) (kR_ HO183) hg hat); replace BK185 := Aside0.mk (blk_grown (bk_ BK185) hg (Kd.R_ne HO188.out BK185.out (by decide))); replace HB := Aside0.mk (below_weaken bs_ HL.out hb); replace HI0 := Aside0.mk (IsS58.grown is58_ hg (IsS58.own_ne HI0.out HO188.out (by decide))); replace HK := Aside0.mk (KeepBut.trans kp_ (KeepBut.of_grown hg g) (Kd.R_base2 HO188.out)); have HO191 := Aside0.mk (ho); clear HO188; clear ho hb hg hat; obtain ⟨Ao18, co18, eo18⟩ := Kd.R_slice HO191.out; subst eo18; have hcz19_0 := bc0_ BK185; have hcz19_1 := bc1_ BK185; have hfz19_0 := blk_frozen BK185.out 0; have hfz19_1 := blk_frozen BK185.out 1) | ((with_reducible refine gate_callee (f := 25) rfl ?_); refine gl_ 12 Tryd.func25 #[.pointer (some ⟨g, 0, none⟩), .int .i64 10] ?_; (with_reducible refine (spec_l1Rd_pick.calls k g s0_0 t184 10 t192 t193 w0 _ ?side1 ?side2 A4.out).mono ?_); (case side1 => exact is58_); (case side2 => exact bs_); rintro e w20 ⟨rfl, hi, hb, hk⟩; refine ⟨_, rfl, ?_⟩; replace BK179 := Aside0.mk (KeepBut.blk hk (g' := gb179) (o := .cells #[.string (⟨#[]⟩ : ByteArray), .slice none 0 0] 42 (0, 0)) bq_ NB179_0.out (by simp)); replace HO183 := Aside0.mk (Kd.R_mono (Kd.R_keep (IsS58.apart (show IsS58 w0 _ g s0_0 t184 from is58_) (by (with_reducible repeat (first | apply Kd.R_alloc | apply Kd.R_drewN | apply Kd.R_drew)); exact (Kd.R_mono (Kd.R_far (p := ⟨gb185, 1, none⟩) (Kd.R_types HO183.out BK185.out (by decide)) (fun _ hk => hk.2) (.slice Ao18 y189.length co18)) (fun _ h_ => h_.1))) (by decide)) hk (fun _ h => h.2)) (fun _ h => h.1)); replace HO191 := Aside0.mk (Kd.R_mono (Kd.R_keep (IsS58.apart (show IsS58 w0 _ g s0_0 t184 from is58_) (by (with_reducible repeat (first | apply Kd.R_alloc | apply Kd.R_drewN | apply Kd.R_drew)); exact (Kd.R_mono (Kd.R_far (p := ⟨gb185, 1, none⟩) (Kd.R_types HO191.out BK185.out (by decide)) (fun _ hk => hk.2) (.slice Ao18 y189.length co18)) (fun _ h_ => h_.1))) (by decide)) hk (fun _ h => h.2)) (fun _ h => h.1)); replace BK185 := Aside0.mk (KeepBut.blk hk (g' := gb185) (o := .cells #[.string t180, .slice Ao18 y189.length co18] 42 (0, 0)) bq_ NB185_0.out (by simp)); replace HK := Aside0.mk (KeepBut.trans kp_ hk (.inl rfl)); replace HB := Aside0.mk (hb); replace HI0 := Aside0.mk (hi); (try clear hb); (try clear hb2); (try clear hk); (try clear hi)) | ((with_reducible refine gate_dst (N := 16) rfl ?_); refine rl_ Kd.string 9 16 ([(⟨#[]⟩ : ByteArray), (⟨#[65]⟩ : ByteArray), (⟨#[97, 46, 98]⟩ : ByteArray), (⟨#[46, 46]⟩ : ByteArray), (⟨#[97, 98, 99, 100, 101, 102, 103, 104, 105]⟩ : ByteArray)] : List ByteArray) [.string (⟨#[]⟩ : ByteArray), .string (⟨#[65]⟩ : ByteArray), .string (⟨#[97, 46, 98]⟩ : ByteArray), .string (⟨#[46, 46]⟩ : ByteArray), .string (⟨#[97, 98, 99, 100, 101, 102, 103, 104, 105]⟩ : ByteArray)] ?_; intro v195 w21 ho22 hb hg_ hnew_; clear hg_ hnew_; (first | rw [← Ny194.out] at ho22 | (simp only [Int.reduceToNat] at ho22; rw [← Ny194.out] at ho22)); replace HO183 := Aside0.mk (Kd.R_below (kR_ HO183) hb); replace HO191 := Aside0.mk (Kd.R_below (kR_ HO191) hb); have HO196 := Aside0.mk (Kd.R_lower ho22 ks_); replace BK179 := Aside0.mk (blk_below (bk_ BK179) hb); replace BK185 := Aside0.mk (blk_below (bk_ BK185) hb); replace HK := Aside0.mk (KeepBut.trans kp_ (KeepBut.of_below hb g none) (.inl rfl)); replace HB := Aside0.mk (below_step bs_ hb); replace HI0 := Aside0.mk (IsS58.below is58_ hb); clear hb ho22; obtain ⟨Ao23, co23, eo23⟩ := Kd.R_slice HO196.out; subst eo23) | ((with_reducible refine gate_callee (f := 42) rfl ?_); refine gl_ 17 Tryd.func42 #[.pointer (some ⟨g, 0, none⟩), .slice Ao23 y194.length co23] ?_; (with_reducible refine (spec_l1Rd_of.calls k g s0_0 t193 _ _ y194 t197 t198 w0 _ ?side1 ?side2 ?side3 ?side4 ?side5 A6.out).mono ?_); (case side1 => exact is58_); (case side2 => exact bs_); (case side3 => exact cr_ HO196); (case side4 => exact (Kd.R_reads' HO196.out).2.1); (case side5 => exact far_slice (IsS58.own_ne HI0.out HO196.out (by decide))); rintro e w24 ⟨rfl, hi, hb, hk⟩; refine ⟨_, rfl, ?_⟩; replace BK179 := Aside0.mk (KeepBut.blk hk (g' := gb179) (o := .cells #[.string (⟨#[]⟩ : ByteArray), .slice none 0 0] 42 (0, 0)) (bk_ BK179) NB179_0.out (by simp)); replace HO183 := Aside0.mk (kaR58_ (kR_ HO183) hk); replace BK185 := Aside0.mk (KeepBut.blk hk (g' := gb185) (o := .cells #[.string t180, .slice Ao18 y189.length co18] 42 (0, 0)) (bk_ BK185) NB185_0.out (by simp)); replace HO191 := Aside0.mk (kaR58_ (kR_ HO191) hk); replace HO196 := Aside0.mk (kaR58_ (kR_ HO196) hk); replace HK := Aside0.mk (KeepBut.trans kp_ hk (.inl rfl)); replace HB := Aside0.mk (hb); replace HI0 := Aside0.mk (hi); (try clear hb); (try clear hb2); (try clear hk); (try clear hi); have hcz25_0 := bc0_ BK185; have hcz25_1 := bc1_ BK185; have hfz25_0 := blk_frozen BK185.out 0; have hfz25_1 := blk_frozen BK185.out 1; have hnb26 := NB179_0.out; have hnc26 := NB0_179.out; have hcz27_0 := bc0_ BK179; have hcz27_1 := bc1_ BK179; have hfz27_0 := blk_frozen BK179.out 0; have hfz27_1 := blk_frozen BK179.out 1))
   refine bodyPost_ret (results_cell_row rfl _ _ gb179 42 #[.string t197, .slice Ao18 y189.length co18] (0, 0) _ rfl bq_ Tryd.underlying42 rfl (by kernel_rfl)) rfl ?_
   exact ⟨_, rfe_, by (with_reducible repeat (first | apply Kd.R_alloc | apply Kd.R_drewN | apply Kd.R_drew)); exact Kd.R_mono (Kd.R_far (p := ⟨gb179, 1, none⟩) (Kd.R_far (p := ⟨gb179, 0, none⟩) (Kd.R_far (p := ⟨gb185, 0, none⟩) (Kd.R_types (Kd.R_types HO191.out BK185.out (by decide)) BK179.out (by decide)) (fun _ hk => hk.1.2) (.string t197)) (fun _ hk => hk.2) (.string t197)) (fun _ hk => hk.2) (.slice Ao18 y189.length co18)) (fun _ hk => trivial), is58_, bs_, kp_⟩
 have c5b0 : (t192 == 0) = false := beq_eq_false_iff_ne.mpr c5
 have c5b1 : (t192 != 0) = true := bne_iff_ne.mpr c5
 replace H := itcc_ H; rcases H with ⟨c28, H⟩ | ⟨c28, H⟩
 · have c28b0 : (t192 == 1) = true := beq_iff_eq.mpr c28
   have c28b1 : (t192 != 1) = false := bne_eq_false_iff_eq.mpr c28
   clear c28
   obtain ⟨y199, hy_⟩ : ∃ y_ : List Int, y_ = (([(-1), 10, 9] : List Int)) := ⟨_, rfl⟩
   replace H : ((spec_l1Rd_one.f k s0_0 t193 y199).bind fun bt202 => (if 0 < (y189.length : Int) then (some (t180, (y189.set (0 : Int).toNat bt202.1), bt202.2)) else (none))) = some (r1, r2, r3) := ry_
   have Ny199 := Aside0.mk hy_; clear hy_
   replace H := Option.bind_eq_some_iff.mp H
   obtain ⟨⟨t202, t203⟩, A290, H⟩ := H; try dsimp -simprocs only at H
   have A29 := Aside0.mk A290
   clear A290
   replace H := inc_ H; obtain ⟨c30, H⟩ := H
   have c30b0 : decide (0 < (y189.length : Int)) = true := decide_eq_true c30
   have c30b1 : decide (0 < y189.length) = true := decide_eq_true (by omega)
   clear c30
   obtain ⟨y204, hy_⟩ : ∃ y_ : List Int, y_ = (y189.set (0 : Int).toNat t202) := ⟨_, rfl⟩
   replace H : (some (t180, y204, t203)) = some (r1, r2, r3) := ry_
   have Ny204 := Aside0.mk hy_; clear hy_
   simp only [Option.some.injEq, Prod.mk.injEq] at H
   obtain ⟨rfl, rfl, rfl⟩ := H
   go_enter Tryd.func45, Tryd.ntmps45
   try go_wp2_with (first | ((with_reducible refine gate_dst (N := 2) rfl ?_); refine be_ 2 42 #[.string (⟨#[]⟩ : ByteArray), .slice none 0 0] ?_; intro gb179 hg w32 hbox hb; replace HB := Aside0.mk (below_step bs_ hb); have BK179 := Aside0.mk (hbox); have GW179 := Aside0.mk ((gk_ hg : w.heap.size ≤ gb179)); have GE179 := Aside0.mk ((Nat.le_trans HW0.out (gk_ hg : w.heap.size ≤ gb179) : w0.heap.size ≤ gb179)); replace HK := Aside0.mk (KeepBut.trans kp_ (KeepBut.of_below hb g none) (.inl rfl)); have NB0_179 := Aside0.mk ((by rw [hg]; exact Nat.ne_of_lt (IsS58.lt (show IsS58 w0 _ g s0_0 s0_1 from is58_)) : g ≠ gb179)); have NB179_0 := Aside0.mk ((by rw [hg]; exact Nat.ne_of_gt (IsS58.lt (show IsS58 w0 _ g s0_0 s0_1 from is58_)) : gb179 ≠ g)); replace HI0 := Aside0.mk (IsS58.below is58_ hb); clear hb hbox hg) | ((with_reducible refine gate_callee (f := 44) rfl ?_); refine gl_ 5 Tryd.func44 #[.pointer (some ⟨g, 0, none⟩)] ?_; (with_reducible refine (spec_l13Pattern.calls k g s0_0 s0_1 t180 t181 t184 w0 _ ?side1 ?side2 A2.out).mono ?_); (case side1 => exact is58_); (case side2 => exact bs_); rintro e w33 ⟨v182, rfl, ho0, hi, hb, hk⟩; refine ⟨_, rfl, ?_⟩; replace BK179 := Aside0.mk (KeepBut.blk hk (g' := gb179) (o := .cells #[.string (⟨#[]⟩ : ByteArray), .slice none 0 0] 42 (0, 0)) (bk_ BK179) NB179_0.out (by simp)); have HO183 := Aside0.mk (Kd.R_lower ho0 ks_); replace HK := Aside0.mk (KeepBut.trans kp_ hk (.inl rfl)); replace HB := Aside0.mk (hb); replace HI0 := Aside0.mk (hi); (try clear hb); (try clear hb2); (try clear hk); (try clear hi); (try clear ho0)) | ((with_reducible refine gate_dst (N := 3) rfl ?_); refine be_ 3 42 #[.string (⟨#[]⟩ : ByteArray), .slice none 0 0] ?_; intro gb185 hg w34 hbox hb; replace HO183 := Aside0.mk (Kd.R_below (kR_ HO183) hb); replace HB := Aside0.mk (below_step bs_ hb); have BK185 := Aside0.mk (hbox); have GW185 := Aside0.mk ((gk_ hg : w.heap.size ≤ gb185)); have GE185 := Aside0.mk ((Nat.le_trans HW0.out (gk_ hg : w.heap.size ≤ gb185) : w0.heap.size ≤ gb185)); replace HK := Aside0.mk (KeepBut.trans kp_ (KeepBut.of_below hb g none) (.inl rfl)); have NB179_185 := Aside0.mk ((by rw [hg]; exact Nat.ne_of_lt (blk_lt (bk_ BK179)) : gb179 ≠ gb185)); have NB185_179 := Aside0.mk ((by rw [hg]; exact Nat.ne_of_gt (blk_lt (bk_ BK179)) : gb185 ≠ gb179)); replace BK179 := Aside0.mk (blk_below (bk_ BK179) hb); have NB0_185 := Aside0.mk ((by rw [hg]; exact Nat.ne_of_lt (IsS58.lt (show IsS58 w0 _ g s0_0 t184 from is58_)) : g ≠ gb185)); have NB185_0 := Aside0.mk ((by rw [hg]; exact Nat.ne_of_gt (IsS58.lt (show IsS58 w0 _ g s0_0 t184 from is58_)) : gb185 ≠ g)); replace HI0 := Aside0.mk (IsS58.below is58_ hb); clear hb hbox hg; have hnb35 := NB185_179.out; have hnc35 := NB179_185.out; have hnb36 := NB185_0.out; have hnc36 := NB0_185.out; have hcz37_0 := bc0_ BK185; have hcz37_1 := bc1_ BK185; have hfz37_0 := blk_frozen BK185.out 0; have hfz37_1 := blk_frozen BK185.out 1; obtain ⟨Ao38, co38, eo38⟩ := Kd.R_slice HO183.out; subst eo38) | ((with_reducible refine gate_dst (N := 6) rfl ?_); refine rl_ (Kd.int .i64) 3 6 ([] : List Int) [] ?_; intro v187 w39 ho40 hb hg_ hnew_; clear hg_ hnew_; (first | rw [← Ny186.out] at ho40 | (simp only [Int.reduceToNat] at ho40; rw [← Ny186.out] at ho40)); have HO188 := Aside0.mk (Kd.R_lower (Kd.R_new' ho40 (Kd.R_lt (by (with_reducible repeat (first | apply Kd.R_alloc | apply Kd.R_drewN | apply Kd.R_drew)); exact (Kd.R_mono (Kd.R_far (p := ⟨gb185, 1, none⟩) (Kd.R_far (p := ⟨gb185, 0, none⟩) (Kd.R_types HO183.out BK185.out (by decide)) (fun _ hk => hk.2) (.string t180)) (fun _ hk => hk.2) (.slice Ao38 t181.length co38)) (fun _ h_ => h_.1))))) ks_); replace HO183 := Aside0.mk (Kd.R_elder' (by (with_reducible repeat (first | apply Kd.R_alloc | apply Kd.R_drewN | apply Kd.R_drew)); exact (Kd.R_mono (Kd.R_far (p := ⟨gb185, 1, none⟩) (Kd.R_far (p := ⟨gb185, 0, none⟩) (Kd.R_types HO183.out BK185.out (by decide)) (fun _ hk => hk.2) (.string t180)) (fun _ hk => hk.2) (.slice Ao38 t181.length co38)) (fun _ h_ => h_.1))) (Kd.R_base ho40) hb); replace BK179 := Aside0.mk (blk_below (g := gb179) (o := .cells #[.string (⟨#[]⟩ : ByteArray), .slice none 0 0] 42 (0, 0)) bq_ hb); replace BK185 := Aside0.mk (blk_below (g := gb185) (o := .cells #[.string t180, .slice Ao38 t181.length co38] 42 (0, 0)) bq_ hb); replace HK := Aside0.mk (KeepBut.trans kp_ (KeepBut.of_below hb g none) (.inl rfl)); replace HB := Aside0.mk (below_step bs_ hb); replace HI0 := Aside0.mk (IsS58.below (show IsS58 w0 ((w34.setCell ⟨gb185, 0, none⟩ (.string t180)).setCell ⟨gb185, 1, none⟩ (.slice Ao38 t181.length co38)) g s0_0 t184 from is58_) hb); clear hb ho40; have hcz41_0 := bc0_ BK185; have hcz41_1 := bc1_ BK185; have hfz41_0 := blk_frozen BK185.out 0; have hfz41_1 := blk_frozen BK185.out 1) | ((with_reducible refine gate_builtin (b := .append) (xs := #[.tmp 6, .tmp 8]) rfl ?_); at_builtin; refine Kd.R_append_rows (Kd.int .i64) w.heap.size rfl (.tmp 6) (.tmp 8) 29 3 (.int .i64 0) 8 rfl Tryd.underlying29 info3 rfl (by decide) (by omega) v187 y186 t181 _ _ _ (fun k_ => some k_ ≠ (.slice Ao38 t181.length co38 : Value).ownBlock) (fun _ => False) rfl rfl ?aO ?aR (fun _ _ h => h) (fun _ h => h.elim) ?aF (Below.refl _ _) ?aS ?aL ?_; (case aR => exact cr_ HO183); (case aF => exact (fun k_ hk => Kd.fresh' (Kd.R_lt (kR_ HO183)) k_ hk)); (case aO => exact (by (with_reducible repeat (first | apply Kd.R_alloc | apply Kd.R_drewN | apply Kd.R_drew)); exact Kd.R_mono HO188.out (fun _ hk => hk.2))); (case aS => exact ks_); (case aL => have := LMc3.out; omega); intro v190 w42 ho hb hg hat; rw [← Ny189.out] at ho; replace BK179 := Aside0.mk (blk_grown (bk_ BK179) hg (Kd.R_ne HO188.out BK179.out (by decide))); replace HO183 := Aside0.mk (Kd.R_after (ok := (fun _ => True)) (kR_ HO183) hg hat); replace BK185 := Aside0.mk (blk_grown (bk_ BK185) hg (Kd.R_ne HO188.out BK185.out (by decide))); replace HB := Aside0.mk (below_weaken bs_ HL.out hb); replace HI0 := Aside0.mk (IsS58.grown is58_ hg (IsS58.own_ne HI0.out HO188.out (by decide))); replace HK := Aside0.mk (KeepBut.trans kp_ (KeepBut.of_grown hg g) (Kd.R_base2 HO188.out)); have HO191 := Aside0.mk (ho); clear HO188; clear ho hb hg hat; obtain ⟨Ao43, co43, eo43⟩ := Kd.R_slice HO191.out; subst eo43; have hcz44_0 := bc0_ BK185; have hcz44_1 := bc1_ BK185; have hfz44_0 := blk_frozen BK185.out 0; have hfz44_1 := blk_frozen BK185.out 1) | ((with_reducible refine gate_callee (f := 25) rfl ?_); refine gl_ 12 Tryd.func25 #[.pointer (some ⟨g, 0, none⟩), .int .i64 10] ?_; (with_reducible refine (spec_l1Rd_pick.calls k g s0_0 t184 10 t192 t193 w0 _ ?side1 ?side2 A4.out).mono ?_); (case side1 => exact is58_); (case side2 => exact bs_); rintro e w45 ⟨rfl, hi, hb, hk⟩; refine ⟨_, rfl, ?_⟩; replace BK179 := Aside0.mk (KeepBut.blk hk (g' := gb179) (o := .cells #[.string (⟨#[]⟩ : ByteArray), .slice none 0 0] 42 (0, 0)) bq_ NB179_0.out (by simp)); replace HO183 := Aside0.mk (Kd.R_mono (Kd.R_keep (IsS58.apart (show IsS58 w0 _ g s0_0 t184 from is58_) (by (with_reducible repeat (first | apply Kd.R_alloc | apply Kd.R_drewN | apply Kd.R_drew)); exact (Kd.R_mono (Kd.R_far (p := ⟨gb185, 1, none⟩) (Kd.R_types HO183.out BK185.out (by decide)) (fun _ hk => hk.2) (.slice Ao43 y189.length co43)) (fun _ h_ => h_.1))) (by decide)) hk (fun _ h => h.2)) (fun _ h => h.1)); replace HO191 := Aside0.mk (Kd.R_mono (Kd.R_keep (IsS58.apart (show IsS58 w0 _ g s0_0 t184 from is58_) (by (with_reducible repeat (first | apply Kd.R_alloc | apply Kd.R_drewN | apply Kd.R_drew)); exact (Kd.R_mono (Kd.R_far (p := ⟨gb185, 1, none⟩) (Kd.R_types HO191.out BK185.out (by decide)) (fun _ hk => hk.2) (.slice Ao43 y189.length co43)) (fun _ h_ => h_.1))) (by decide)) hk (fun _ h => h.2)) (fun _ h => h.1)); replace BK185 := Aside0.mk (KeepBut.blk hk (g' := gb185) (o := .cells #[.string t180, .slice Ao43 y189.length co43] 42 (0, 0)) bq_ NB185_0.out (by simp)); replace HK := Aside0.mk (KeepBut.trans kp_ hk (.inl rfl)); replace HB := Aside0.mk (hb); replace HI0 := Aside0.mk (hi); (try clear hb); (try clear hb2); (try clear hk); (try clear hi)))
   replace HO183 := Aside0.mk (Kd.R_drew HO183.out)
   replace HO191 := Aside0.mk (Kd.R_drew HO191.out)
   replace BK179 := Aside0.mk (blk_drew BK179.out)
   replace BK185 := Aside0.mk (blk_drew BK185.out)
   replace HI0 := Aside0.mk (IsS58.drew HI0.out)
   replace HK := Aside0.mk (keep_drew HK.out)
   replace HB := Aside0.mk (below_drew1 HB.out)
   refine start_ (n := 7) (S := fun w' => w'.cell? ⟨gb185, 0, none⟩ = some (.string t180) ∧ w'.cell? ⟨gb185, 1, none⟩ = some (.slice Ao43 y189.length co43)) (ds := [6]) (bm 7 0) (by kernel_rfl) rfl rfl ⟨(blk_cell BK185.out 0).trans rfl, (blk_cell BK185.out 1).trans rfl⟩ (fun hHeld => ?_)
   generalize w45.drew = w46 at HO183 HO191 BK179 BK185 HI0 HK HB hHeld ⊢
   refine pure_ (i := 0) (N := some 21) (v := ?_) (a' := ?_) (bm 7 1) rfl rfl (by kernel_rfl) (fun _ _ _ h => h) (Or.inl ⟨by rfl, ?_⟩) ?_ ?_
   rotate_left
   · intro w'
     go_simp
     with_reducible rfl
   rotate_left
   · simp only [Act.put, List.setIfInBounds_toArray, List.set_cons_zero, List.set_cons_succ, i64_w, i32_w]
     rfl
   refine pure_ (i := 2) (N := some 23) (v := ?_) (a' := ?_) (bm 7 5) rfl rfl (by kernel_rfl) (fun _ _ _ h => h) (Or.inl ⟨by rfl, ?_⟩) ?_ ?_
   rotate_left
   · intro w'
     go_simp
     with_reducible rfl
   rotate_left
   · simp only [Act.put, List.setIfInBounds_toArray, List.set_cons_zero, List.set_cons_succ, i64_w, i32_w]
     rfl
   refine take_ (i := 1) (N := some 22) (v := ?_) (a' := ?_) (bm 7 7) rfl rfl (by kernel_rfl) (fun _ _ _ h => h) (Or.inl ⟨by rfl, ?_⟩) hHeld ?_ ?_
   rotate_left
   · rintro w' ⟨s0, s1⟩
     go_simp
     with_reducible rfl
   rotate_left
   · simp only [Act.put, List.setIfInBounds_toArray, List.set_cons_zero, List.set_cons_succ, i64_w, i32_w]
     rfl
   refine one_ (i := 3) (N := some 24) (bm 7 15) rfl rfl (by kernel_rfl) (by decide) (fun K hK => ?_)
   refine Kd.R_lit_step (Kd.int .i64) _ 3 ?hg (N := 24) ?hd (xs := ([(-1), 10, 9] : List Int)) (inner := [.int .i64 (-1), .int .i64 10, .int .i64 9]) (ok := fun _ => True) (okp := fun _ => True) ?hr ?hp (fun _ hk => hk) trivial (Below.refl _ _) (Nat.le_refl _) (by simp) ?_; (case hd => rfl); (case hg => rfl); (case hr => first | (go_simp; done) | (go_simp; rfl)); (case hp => exact (Reps.one (show Kd.M (Kd.int .i64) _ _ _ (-1) [.int .i64 (-1)] from rfl) (Reps.one (show Kd.M (Kd.int .i64) _ _ _ 10 [.int .i64 10] from rfl) (Reps.one (show Kd.M (Kd.int .i64) _ _ _ 9 [.int .i64 9] from rfl) (Reps.none _ _)))))
   intro v200 w47 ho48 hb hg_ hnew_
   clear hg_ hnew_
   (first | rw [← Ny199.out] at ho48 | (simp only [Int.reduceToNat] at ho48; rw [← Ny199.out] at ho48))
   have HO201 := Aside0.mk (Kd.R_lower (Kd.R_new' (Kd.R_new' ho48 (Kd.R_lt (kR_ HO183))) (Kd.R_lt (kR_ HO191))) ks_)
   replace HO183 := Aside0.mk (Kd.R_elder' (kR_ HO183) (Kd.R_base ho48) hb)
   replace HO191 := Aside0.mk (Kd.R_elder' (kR_ HO191) (Kd.R_base ho48) hb)
   replace BK179 := Aside0.mk (blk_below (bk_ BK179) hb)
   replace BK185 := Aside0.mk (blk_below (bk_ BK185) hb)
   replace HK := Aside0.mk (KeepBut.trans kp_ (KeepBut.of_below hb g none) (.inl rfl))
   replace HB := Aside0.mk (below_step bs_ hb)
   replace HI0 := Aside0.mk (IsS58.below is58_ hb)
   clear hb ho48
   obtain ⟨Ao49, co49, eo49⟩ := Kd.R_slice HO201.out
   (first | subst eo49 | (injection eo49 with f1_ f2_ f3_; have f4_ := f1_.symm; have f5_ := f3_.symm; clear f1_ f2_ f3_; subst f4_; subst f5_))
   refine hK.out _ _ ⟨(blk_cell BK185.out 0).trans rfl, (blk_cell BK185.out 1).trans rfl⟩ (fun hHeld => ?_)
   clear hK K
   refine nm_ ?_
   refine one_ (i := 4) (N := some 25) (bm 7 31) rfl rfl (by kernel_rfl) (by decide) (fun K hK => ?_)
   refine goes_ Tryd.func29 (by kernel_rfl) rfl #[.pointer (some ⟨g, 0, none⟩), .slice Ao49 y199.length co49] (by rfl) rfl rfl (by (try simp only [List.map_toArray, List.map_cons, List.map_nil]); first | done | rfl | (simp only [List.length_drop, List.length_take]; rfl)) ?_
   with_reducible refine (spec_l1Rd_one.calls k g s0_0 t193 _ _ y199 t202 t203 w0 _ ?side1 ?side2 ?side3 ?side4 ?side5 A29.out).mono ?_
   (case side1 => exact is58_)
   (case side2 => exact bs_)
   (case side3 => exact cr_ HO201)
   (case side4 => exact (Kd.R_reads' HO201.out).2.1)
   (case side5 => exact far_slice (IsS58.own_ne HI0.out HO201.out (by decide)))
   rintro e w50 ⟨rfl, hi, hb, hk⟩
   refine ⟨_, rfl, ?_⟩
   replace BK179 := Aside0.mk (KeepBut.blk hk (g' := gb179) (o := .cells #[.string (⟨#[]⟩ : ByteArray), .slice none 0 0] 42 (0, 0)) (bk_ BK179) NB179_0.out (by simp))
   replace HO183 := Aside0.mk (kaR58_ (kR_ HO183) hk)
   replace BK185 := Aside0.mk (KeepBut.blk hk (g' := gb185) (o := .cells #[.string t180, .slice Ao43 y189.length co43] 42 (0, 0)) (bk_ BK185) NB185_0.out (by simp))
   replace HO191 := Aside0.mk (kaR58_ (kR_ HO191) hk)
   replace HO201 := Aside0.mk (kaR58_ (kR_ HO201) hk)
   replace HK := Aside0.mk (KeepBut.trans kp_ hk (.inl rfl))
   replace HB := Aside0.mk (hb)
   replace HI0 := Aside0.mk (hi)
   (try clear hb)
   (try clear hb2)
   (try clear hk)
   (try clear hi)
   have p31 : 0 ≤ (0 : Int) := (by omega)
   have q31 : (0 : Int) < ((y189.length : Int) : Int) := od_
   have qi31 : (0 < y189.length) = True := eq_true (by omega)
   obtain ⟨go31, co31, eo31, gb31, gl31, cl31, HG31⟩ := Kd.R_form HO191.out (by omega)
   (first | cases eo31 | (injection eo31 with ea_ en_ ec_; (first | subst ea_ | (injection ea_ with ea_; subst ea_)); subst ec_; clear en_))
   have GB31 := Aside0.mk gb31
   have GG31 := Aside0.mk HG31
   clear gb31 gl31 HG31
   obtain ⟨hx31_0, hf31_0⟩ := Kd.R_celln 0 HO191.out (0 : Int) p31 q31
   (try rw [show ((0 : Int)).toNat = 0 from rfl] at hx31_0)
   (try simp only [Nat.reduceMul, Nat.zero_mul, Nat.zero_add, Nat.reduceAdd] at hx31_0)
   (try rw [show ((0 : Int)).toNat = 0 from rfl] at hf31_0)
   (try simp only [Nat.reduceMul, Nat.zero_mul, Nat.zero_add, Nat.reduceAdd] at hf31_0)
   replace p31 := eq_true p31; replace q31 := eq_true q31
   have HN0_go31 := Aside0.mk (show g ≠ go31 from by have h_ := IsS58.own_ne HI0.out HO191.out (by decide); intro e_; exact h_ (by rw [e_]; rfl))
   have HP51 := Kd.R_putn HO191.out (0 : Int) t202
   rw [← Ny204.out] at HP51
   have HQ51 := Aside0.mk HP51
   clear HP51
   refine hK.out _ _ ⟨(blk_cell BK185.out 0).trans rfl, (blk_cell BK185.out 1).trans rfl⟩ (fun hHeld => ?_)
   clear hK K
   refine nm_ ?_
   refine pure_ (i := 5) (N := some 26) (v := ?_) (a' := ?_) (bm 7 63) rfl rfl (by kernel_rfl) (fun _ _ _ h => h) (Or.inl ⟨by rfl, ?_⟩) ?_ ?_
   rotate_left
   · intro w'
     go_simp
     with_reducible rfl
   rotate_left
   · simp only [Act.put, List.setIfInBounds_toArray, List.set_cons_zero, List.set_cons_succ, i64_w, i32_w]
     rfl
   refine last_ (i := 6) (N := none) (bm 7 127) rfl rfl (by kernel_rfl) (by decide) (fun K hK => ?_)
   refine skip_ (w1 := ?_) (by rfl) rfl ?_ ?_
   rotate_left
   · go_simp
     rfl
   refine hK.out _ _ ?_
   clear hK K
   refine done_ (by kernel_rfl) ?_
   have n0_ : Aside0 (Kd.R (Kd.int .i64) 3 (w50.setCell ⟨go31, 0, none⟩ (.int .i64 t202)) w.heap.size (fun k_ => some k_ ≠ (.slice (some ⟨go31, 0, none⟩) y189.length co43 : Value).ownBlock ∧ some k_ ≠ (.slice Ao49 y199.length co49 : Value).ownBlock) (.slice Ao38 t181.length co38) t181) := ⟨by (with_reducible repeat (first | apply Kd.R_alloc | apply Kd.R_drewN | apply Kd.R_drew)); exact Kd.R_mono (Kd.R_far (p := ⟨go31, 0, none⟩) (Kd.R_mono HO183.out (fun k_ hk => (⟨hk, fun e_ => hk.1.2 (by rw [e_]; rfl)⟩ : _ ∧ k_ ≠ go31))) (fun _ hk => hk.2) (.int .i64 t202)) (fun _ hk => ⟨hk.1.1.2, hk.1.2⟩)⟩
   have n1_ : Aside0 (Kd.R (Kd.int .i64) 3 (w50.setCell ⟨go31, 0, none⟩ (.int .i64 t202)) w.heap.size (fun k_ => some k_ ≠ (.slice Ao38 t181.length co38 : Value).ownBlock ∧ some k_ ≠ (.slice Ao49 y199.length co49 : Value).ownBlock) (.slice (some ⟨go31, 0, none⟩) y189.length co43) y204) := ⟨by (with_reducible repeat (first | apply Kd.R_alloc | apply Kd.R_drewN | apply Kd.R_drew)); exact HQ51.out⟩
   have n2_ : Aside0 (Kd.R (Kd.int .i64) 3 (w50.setCell ⟨go31, 0, none⟩ (.int .i64 t202)) w.heap.size (fun k_ => some k_ ≠ (.slice Ao38 t181.length co38 : Value).ownBlock ∧ some k_ ≠ (.slice (some ⟨go31, 0, none⟩) y189.length co43 : Value).ownBlock) (.slice Ao49 y199.length co49) y199) := ⟨by (with_reducible repeat (first | apply Kd.R_alloc | apply Kd.R_drewN | apply Kd.R_drew)); exact Kd.R_mono (Kd.R_far (p := ⟨go31, 0, none⟩) (Kd.R_mono HO201.out (fun k_ hk => (⟨hk, fun e_ => hk.2 (by rw [e_]; rfl)⟩ : _ ∧ k_ ≠ go31))) (fun _ hk => hk.2) (.int .i64 t202)) (fun _ hk => ⟨hk.1.1.2, hk.1.2⟩)⟩
   have n3_ : Aside0 ((w50.setCell ⟨go31, 0, none⟩ (.int .i64 t202)).heap[gb179]? = some (.cells #[.string (⟨#[]⟩ : ByteArray), .slice none 0 0] 42 (0, 0))) := ⟨by (with_reducible repeat (first | refine blk_drewN ?_ _ | refine blk_drew ?_ | refine blk_alloc ?_ _)); refine blk_far ?_ (by have h_ := Kd.R_ne HO191.out BK179.out (by decide); intro e_; exact h_ (by rw [e_]; rfl)) _; (with_reducible repeat (first | refine blk_drewN ?_ _ | refine blk_drew ?_ | refine blk_alloc ?_ _)); exact BK179.out⟩
   have n4_ : Aside0 ((w50.setCell ⟨go31, 0, none⟩ (.int .i64 t202)).heap[gb185]? = some (.cells #[.string t180, .slice (some ⟨go31, 0, none⟩) y189.length co43] 42 (0, 0))) := ⟨by (with_reducible repeat (first | refine blk_drewN ?_ _ | refine blk_drew ?_ | refine blk_alloc ?_ _)); refine blk_far ?_ (by have h_ := Kd.R_ne HO191.out BK185.out (by decide); intro e_; exact h_ (by rw [e_]; rfl)) _; (with_reducible repeat (first | refine blk_drewN ?_ _ | refine blk_drew ?_ | refine blk_alloc ?_ _)); exact BK185.out⟩
   have n5_ : Aside0 (IsS58 w0 (w50.setCell ⟨go31, 0, none⟩ (.int .i64 t202)) g s0_0 t203) := ⟨is58_⟩
   have n6_ : Aside0 (KeepBut w (w50.setCell ⟨go31, 0, none⟩ (.int .i64 t202)) g none) := ⟨kp_⟩
   have n7_ : Aside0 (Below w0.heap.size w0 (w50.setCell ⟨go31, 0, none⟩ (.int .i64 t202))) := ⟨bs_⟩
   (try clear HO183)
   (try clear HO191)
   (try clear HO201)
   (try clear BK179)
   (try clear BK185)
   (try clear HI0)
   (try clear HK)
   (try clear HB)
   generalize (w50.setCell ⟨go31, 0, none⟩ (.int .i64 t202)) = w52 at n0_ n1_ n2_ n3_ n4_ n5_ n6_ n7_ ⊢
   have HO183 := n0_
   have HO191 := n1_
   have HO201 := n2_
   have BK179 := n3_
   have BK185 := n4_
   have HI0 := n5_
   have HK := n6_
   have HB := n7_
   clear n0_ n1_ n2_ n3_ n4_ n5_ n6_ n7_
   have hcz53_0 := bc0_ BK185
   have hcz53_1 := bc1_ BK185
   have hfz53_0 := blk_frozen BK185.out 0
   have hfz53_1 := blk_frozen BK185.out 1
   have hnb54 := NB179_0.out
   have hnc54 := NB0_179.out
   have hcz55_0 := bc0_ BK179
   have hcz55_1 := bc1_ BK179
   have hfz55_0 := blk_frozen BK179.out 0
   have hfz55_1 := blk_frozen BK179.out 1
   try go_wp2
   refine bodyPost_ret (results_cell_row rfl _ _ gb179 42 #[.string t180, .slice (some ⟨go31, 0, none⟩) y189.length co43] (0, 0) _ rfl bq_ Tryd.underlying42 rfl (by kernel_rfl)) rfl ?_
   exact ⟨_, rfe_, by (with_reducible repeat (first | apply Kd.R_alloc | apply Kd.R_drewN | apply Kd.R_drew)); exact Kd.R_mono (Kd.R_far (p := ⟨gb179, 1, none⟩) (Kd.R_far (p := ⟨gb179, 0, none⟩) (Kd.R_types HO191.out BK179.out (by decide)) (fun _ hk => hk.2) (.string t180)) (fun _ hk => hk.2) (.slice (some ⟨go31, 0, none⟩) y189.length co43)) (fun _ hk => trivial), is58_, bs_, kp_⟩
 have c28b0 : (t192 == 1) = false := beq_eq_false_iff_ne.mpr c28
 have c28b1 : (t192 != 1) = true := bne_iff_ne.mpr c28
 replace H := iucc_ H; rcases H with ⟨c56, H⟩ | ⟨c56, H⟩
 · have c56b0 : (t192 == 2) = false := beq_eq_false_iff_ne.mpr c56
   have c56b1 : (t192 != 2) = true := bne_iff_ne.mpr c56
   simp only [Option.some.injEq, Prod.mk.injEq] at H
   obtain ⟨rfl, rfl, rfl⟩ := H
   go_enter Tryd.func45, Tryd.ntmps45
   go_wp2_with (first | ((with_reducible refine gate_dst (N := 2) rfl ?_); refine be_ 2 42 #[.string (⟨#[]⟩ : ByteArray), .slice none 0 0] ?_; intro gb179 hg w78 hbox hb; replace HB := Aside0.mk (below_step bs_ hb); have BK179 := Aside0.mk (hbox); have GW179 := Aside0.mk ((gk_ hg : w.heap.size ≤ gb179)); have GE179 := Aside0.mk ((Nat.le_trans HW0.out (gk_ hg : w.heap.size ≤ gb179) : w0.heap.size ≤ gb179)); replace HK := Aside0.mk (KeepBut.trans kp_ (KeepBut.of_below hb g none) (.inl rfl)); have NB0_179 := Aside0.mk ((by rw [hg]; exact Nat.ne_of_lt (IsS58.lt (show IsS58 w0 _ g s0_0 s0_1 from is58_)) : g ≠ gb179)); have NB179_0 := Aside0.mk ((by rw [hg]; exact Nat.ne_of_gt (IsS58.lt (show IsS58 w0 _ g s0_0 s0_1 from is58_)) : gb179 ≠ g)); replace HI0 := Aside0.mk (IsS58.below is58_ hb); clear hb hbox hg) | ((with_reducible refine gate_callee (f := 44) rfl ?_); refine gl_ 5 Tryd.func44 #[.pointer (some ⟨g, 0, none⟩)] ?_; (with_reducible refine (spec_l13Pattern.calls k g s0_0 s0_1 t180 t181 t184 w0 _ ?side1 ?side2 A2.out).mono ?_); (case side1 => exact is58_); (case side2 => exact bs_); rintro e w79 ⟨v182, rfl, ho0, hi, hb, hk⟩; refine ⟨_, rfl, ?_⟩; replace BK179 := Aside0.mk (KeepBut.blk hk (g' := gb179) (o := .cells #[.string (⟨#[]⟩ : ByteArray), .slice none 0 0] 42 (0, 0)) (bk_ BK179) NB179_0.out (by simp)); have HO183 := Aside0.mk (Kd.R_lower ho0 ks_); replace HK := Aside0.mk (KeepBut.trans kp_ hk (.inl rfl)); replace HB := Aside0.mk (hb); replace HI0 := Aside0.mk (hi); (try clear hb); (try clear hb2); (try clear hk); (try clear hi); (try clear ho0)) | ((with_reducible refine gate_dst (N := 3) rfl ?_); refine be_ 3 42 #[.string (⟨#[]⟩ : ByteArray), .slice none 0 0] ?_; intro gb185 hg w80 hbox hb; replace HO183 := Aside0.mk (Kd.R_below (kR_ HO183) hb); replace HB := Aside0.mk (below_step bs_ hb); have BK185 := Aside0.mk (hbox); have GW185 := Aside0.mk ((gk_ hg : w.heap.size ≤ gb185)); have GE185 := Aside0.mk ((Nat.le_trans HW0.out (gk_ hg : w.heap.size ≤ gb185) : w0.heap.size ≤ gb185)); replace HK := Aside0.mk (KeepBut.trans kp_ (KeepBut.of_below hb g none) (.inl rfl)); have NB179_185 := Aside0.mk ((by rw [hg]; exact Nat.ne_of_lt (blk_lt (bk_ BK179)) : gb179 ≠ gb185)); have NB185_179 := Aside0.mk ((by rw [hg]; exact Nat.ne_of_gt (blk_lt (bk_ BK179)) : gb185 ≠ gb179)); replace BK179 := Aside0.mk (blk_below (bk_ BK179) hb); have NB0_185 := Aside0.mk ((by rw [hg]; exact Nat.ne_of_lt (IsS58.lt (show IsS58 w0 _ g s0_0 t184 from is58_)) : g ≠ gb185)); have NB185_0 := Aside0.mk ((by rw [hg]; exact Nat.ne_of_gt (IsS58.lt (show IsS58 w0 _ g s0_0 t184 from is58_)) : gb185 ≠ g)); replace HI0 := Aside0.mk (IsS58.below is58_ hb); clear hb hbox hg; have hnb81 := NB185_179.out; have hnc81 := NB179_185.out; have hnb82 := NB185_0.out; have hnc82 := NB0_185.out; have hcz83_0 := bc0_ BK185; have hcz83_1 := bc1_ BK185; have hfz83_0 := blk_frozen BK185.out 0; have hfz83_1 := blk_frozen BK185.out 1; obtain ⟨Ao84, co84, eo84⟩ := Kd.R_slice HO183.out; subst eo84) | ((with_reducible refine gate_dst (N := 6) rfl ?_); refine rl_ (Kd.int .i64) 3 6 ([] : List Int) [] ?_; intro v187 w85 ho86 hb hg_ hnew_; clear hg_ hnew_; (first | rw [← Ny186.out] at ho86 | (simp only [Int.reduceToNat] at ho86; rw [← Ny186.out] at ho86)); have HO188 := Aside0.mk (Kd.R_lower (Kd.R_new' ho86 (Kd.R_lt (by (with_reducible repeat (first | apply Kd.R_alloc | apply Kd.R_drewN | apply Kd.R_drew)); exact (Kd.R_mono (Kd.R_far (p := ⟨gb185, 1, none⟩) (Kd.R_far (p := ⟨gb185, 0, none⟩) (Kd.R_types HO183.out BK185.out (by decide)) (fun _ hk => hk.2) (.string t180)) (fun _ hk => hk.2) (.slice Ao84 t181.length co84)) (fun _ h_ => h_.1))))) ks_); replace HO183 := Aside0.mk (Kd.R_elder' (by (with_reducible repeat (first | apply Kd.R_alloc | apply Kd.R_drewN | apply Kd.R_drew)); exact (Kd.R_mono (Kd.R_far (p := ⟨gb185, 1, none⟩) (Kd.R_far (p := ⟨gb185, 0, none⟩) (Kd.R_types HO183.out BK185.out (by decide)) (fun _ hk => hk.2) (.string t180)) (fun _ hk => hk.2) (.slice Ao84 t181.length co84)) (fun _ h_ => h_.1))) (Kd.R_base ho86) hb); replace BK179 := Aside0.mk (blk_below (g := gb179) (o := .cells #[.string (⟨#[]⟩ : ByteArray), .slice none 0 0] 42 (0, 0)) bq_ hb); replace BK185 := Aside0.mk (blk_below (g := gb185) (o := .cells #[.string t180, .slice Ao84 t181.length co84] 42 (0, 0)) bq_ hb); replace HK := Aside0.mk (KeepBut.trans kp_ (KeepBut.of_below hb g none) (.inl rfl)); replace HB := Aside0.mk (below_step bs_ hb); replace HI0 := Aside0.mk (IsS58.below (show IsS58 w0 ((w80.setCell ⟨gb185, 0, none⟩ (.string t180)).setCell ⟨gb185, 1, none⟩ (.slice Ao84 t181.length co84)) g s0_0 t184 from is58_) hb); clear hb ho86; have hcz87_0 := bc0_ BK185; have hcz87_1 := bc1_ BK185; have hfz87_0 := blk_frozen BK185.out 0; have hfz87_1 := blk_frozen BK185.out 1) | ((with_reducible refine gate_builtin (b := .append) (xs := #[.tmp 6, .tmp 8]) rfl ?_); at_builtin; refine Kd.R_append_rows (Kd.int .i64) w.heap.size rfl (.tmp 6) (.tmp 8) 29 3 (.int .i64 0) 8 rfl Tryd.underlying29 info3 rfl (by decide) (by omega) v187 y186 t181 _ _ _ (fun k_ => some k_ ≠ (.slice Ao84 t181.length co84 : Value).ownBlock) (fun _ => False) rfl rfl ?aO ?aR (fun _ _ h => h) (fun _ h => h.elim) ?aF (Below.refl _ _) ?aS ?aL ?_; (case aR => exact cr_ HO183); (case aF => exact (fun k_ hk => Kd.fresh' (Kd.R_lt (kR_ HO183)) k_ hk)); (case aO => exact (by (with_reducible repeat (first | apply Kd.R_alloc | apply Kd.R_drewN | apply Kd.R_drew)); exact Kd.R_mono HO188.out (fun _ hk => hk.2))); (case aS => exact ks_); (case aL => have := LMc3.out; omega); intro v190 w88 ho hb hg hat; rw [← Ny189.out] at ho; replace BK179 := Aside0.mk (blk_grown (bk_ BK179) hg (Kd.R_ne HO188.out BK179.out (by decide))); replace HO183 := Aside0.mk (Kd.R_after (ok := (fun _ => True)) (kR_ HO183) hg hat); replace BK185 := Aside0.mk (blk_grown (bk_ BK185) hg (Kd.R_ne HO188.out BK185.out (by decide))); replace HB := Aside0.mk (below_weaken bs_ HL.out hb); replace HI0 := Aside0.mk (IsS58.grown is58_ hg (IsS58.own_ne HI0.out HO188.out (by decide))); replace HK := Aside0.mk (KeepBut.trans kp_ (KeepBut.of_grown hg g) (Kd.R_base2 HO188.out)); have HO191 := Aside0.mk (ho); clear HO188; clear ho hb hg hat; obtain ⟨Ao89, co89, eo89⟩ := Kd.R_slice HO191.out; subst eo89; have hcz90_0 := bc0_ BK185; have hcz90_1 := bc1_ BK185; have hfz90_0 := blk_frozen BK185.out 0; have hfz90_1 := blk_frozen BK185.out 1) | ((with_reducible refine gate_callee (f := 25) rfl ?_); refine gl_ 12 Tryd.func25 #[.pointer (some ⟨g, 0, none⟩), .int .i64 10] ?_; (with_reducible refine (spec_l1Rd_pick.calls k g s0_0 t184 10 t192 t193 w0 _ ?side1 ?side2 A4.out).mono ?_); (case side1 => exact is58_); (case side2 => exact bs_); rintro e w91 ⟨rfl, hi, hb, hk⟩; refine ⟨_, rfl, ?_⟩; replace BK179 := Aside0.mk (KeepBut.blk hk (g' := gb179) (o := .cells #[.string (⟨#[]⟩ : ByteArray), .slice none 0 0] 42 (0, 0)) bq_ NB179_0.out (by simp)); replace HO183 := Aside0.mk (Kd.R_mono (Kd.R_keep (IsS58.apart (show IsS58 w0 _ g s0_0 t184 from is58_) (by (with_reducible repeat (first | apply Kd.R_alloc | apply Kd.R_drewN | apply Kd.R_drew)); exact (Kd.R_mono (Kd.R_far (p := ⟨gb185, 1, none⟩) (Kd.R_types HO183.out BK185.out (by decide)) (fun _ hk => hk.2) (.slice Ao89 y189.length co89)) (fun _ h_ => h_.1))) (by decide)) hk (fun _ h => h.2)) (fun _ h => h.1)); replace HO191 := Aside0.mk (Kd.R_mono (Kd.R_keep (IsS58.apart (show IsS58 w0 _ g s0_0 t184 from is58_) (by (with_reducible repeat (first | apply Kd.R_alloc | apply Kd.R_drewN | apply Kd.R_drew)); exact (Kd.R_mono (Kd.R_far (p := ⟨gb185, 1, none⟩) (Kd.R_types HO191.out BK185.out (by decide)) (fun _ hk => hk.2) (.slice Ao89 y189.length co89)) (fun _ h_ => h_.1))) (by decide)) hk (fun _ h => h.2)) (fun _ h => h.1)); replace BK185 := Aside0.mk (KeepBut.blk hk (g' := gb185) (o := .cells #[.string t180, .slice Ao89 y189.length co89] 42 (0, 0)) bq_ NB185_0.out (by simp)); replace HK := Aside0.mk (KeepBut.trans kp_ hk (.inl rfl)); replace HB := Aside0.mk (hb); replace HI0 := Aside0.mk (hi); (try clear hb); (try clear hb2); (try clear hk); (try clear hi); have hcz92_0 := bc0_ BK185; have hcz92_1 := bc1_ BK185; have hfz92_0 := blk_frozen BK185.out 0; have hfz92_1 := blk_frozen BK185.out 1; have hnb93 := NB179_0.out; have hnc93 := NB0_179.out; have hcz94_0 := bc0_ BK179; have hcz94_1 := bc1_ BK179; have hfz94_0 := blk_frozen BK179.out 0; have hfz94_1 := blk_frozen BK179.out 1))
   refine bodyPost_ret (results_cell_row rfl _ _ gb179 42 #[.string t180, .slice Ao89 y189.length co89] (0, 0) _ rfl bq_ Tryd.underlying42 rfl (by kernel_rfl)) rfl ?_
   exact ⟨_, rfe_, by (with_reducible repeat (first | apply Kd.R_alloc | apply Kd.R_drewN | apply Kd.R_drew)); exact Kd.R_mono (Kd.R_far (p := ⟨gb179, 1, none⟩) (Kd.R_far (p := ⟨gb179, 0, none⟩) (Kd.R_types HO191.out BK179.out (by decide)) (fun _ hk => hk.2) (.string t180)) (fun _ hk => hk.2) (.slice Ao89 y189.length co89)) (fun _ hk => trivial), is58_, bs_, kp_⟩
 have c56b0 : (t192 == 2) = true := beq_iff_eq.mpr c56
 have c56b1 : (t192 != 2) = false := bne_eq_false_iff_eq.mpr c56
 clear c56
 replace H := inc_ H; obtain ⟨c57, H⟩ := H
 have LMc57 := Aside0.mk c57
 clear c57
 obtain ⟨y205, hy_⟩ : ∃ y_ : List Int, y_ = (y189 ++ [1]) := ⟨_, rfl⟩
 replace H : (some (t180, y205, t193)) = some (r1, r2, r3) := ry_
 have Ny205 := Aside0.mk hy_; clear hy_
 simp only [Option.some.injEq, Prod.mk.injEq] at H
 obtain ⟨rfl, rfl, rfl⟩ := H
 go_enter Tryd.func45, Tryd.ntmps45
 go_wp2_with (first | ((with_reducible refine gate_dst (N := 2) rfl ?_); refine be_ 2 42 #[.string (⟨#[]⟩ : ByteArray), .slice none 0 0] ?_; intro gb179 hg w58 hbox hb; replace HB := Aside0.mk (below_step bs_ hb); have BK179 := Aside0.mk (hbox); have GW179 := Aside0.mk ((gk_ hg : w.heap.size ≤ gb179)); have GE179 := Aside0.mk ((Nat.le_trans HW0.out (gk_ hg : w.heap.size ≤ gb179) : w0.heap.size ≤ gb179)); replace HK := Aside0.mk (KeepBut.trans kp_ (KeepBut.of_below hb g none) (.inl rfl)); have NB0_179 := Aside0.mk ((by rw [hg]; exact Nat.ne_of_lt (IsS58.lt (show IsS58 w0 _ g s0_0 s0_1 from is58_)) : g ≠ gb179)); have NB179_0 := Aside0.mk ((by rw [hg]; exact Nat.ne_of_gt (IsS58.lt (show IsS58 w0 _ g s0_0 s0_1 from is58_)) : gb179 ≠ g)); replace HI0 := Aside0.mk (IsS58.below is58_ hb); clear hb hbox hg) | ((with_reducible refine gate_callee (f := 44) rfl ?_); refine gl_ 5 Tryd.func44 #[.pointer (some ⟨g, 0, none⟩)] ?_; (with_reducible refine (spec_l13Pattern.calls k g s0_0 s0_1 t180 t181 t184 w0 _ ?side1 ?side2 A2.out).mono ?_); (case side1 => exact is58_); (case side2 => exact bs_); rintro e w59 ⟨v182, rfl, ho0, hi, hb, hk⟩; refine ⟨_, rfl, ?_⟩; replace BK179 := Aside0.mk (KeepBut.blk hk (g' := gb179) (o := .cells #[.string (⟨#[]⟩ : ByteArray), .slice none 0 0] 42 (0, 0)) (bk_ BK179) NB179_0.out (by simp)); have HO183 := Aside0.mk (Kd.R_lower ho0 ks_); replace HK := Aside0.mk (KeepBut.trans kp_ hk (.inl rfl)); replace HB := Aside0.mk (hb); replace HI0 := Aside0.mk (hi); (try clear hb); (try clear hb2); (try clear hk); (try clear hi); (try clear ho0)) | ((with_reducible refine gate_dst (N := 3) rfl ?_); refine be_ 3 42 #[.string (⟨#[]⟩ : ByteArray), .slice none 0 0] ?_; intro gb185 hg w60 hbox hb; replace HO183 := Aside0.mk (Kd.R_below (kR_ HO183) hb); replace HB := Aside0.mk (below_step bs_ hb); have BK185 := Aside0.mk (hbox); have GW185 := Aside0.mk ((gk_ hg : w.heap.size ≤ gb185)); have GE185 := Aside0.mk ((Nat.le_trans HW0.out (gk_ hg : w.heap.size ≤ gb185) : w0.heap.size ≤ gb185)); replace HK := Aside0.mk (KeepBut.trans kp_ (KeepBut.of_below hb g none) (.inl rfl)); have NB179_185 := Aside0.mk ((by rw [hg]; exact Nat.ne_of_lt (blk_lt (bk_ BK179)) : gb179 ≠ gb185)); have NB185_179 := Aside0.mk ((by rw [hg]; exact Nat.ne_of_gt (blk_lt (bk_ BK179)) : gb185 ≠ gb179)); replace BK179 := Aside0.mk (blk_below (bk_ BK179) hb); have NB0_185 := Aside0.mk ((by rw [hg]; exact Nat.ne_of_lt (IsS58.lt (show IsS58 w0 _ g s0_0 t184 from is58_)) : g ≠ gb185)); have NB185_0 := Aside0.mk ((by rw [hg]; exact Nat.ne_of_gt (IsS58.lt (show IsS58 w0 _ g s0_0 t184 from is58_)) : gb185 ≠ g)); replace HI0 := Aside0.mk (IsS58.below is58_ hb); clear hb hbox hg; have hnb61 := NB185_179.out; have hnc61 := NB179_185.out; have hnb62 := NB185_0.out; have hnc62 := NB0_185.out; have hcz63_0 := bc0_ BK185; have hcz63_1 := bc1_ BK185; have hfz63_0 := blk_frozen BK185.out 0; have hfz63_1 := blk_frozen BK185.out 1; obtain ⟨Ao64, co64, eo64⟩ := Kd.R_slice HO183.out; subst eo64) | ((with_reducible refine gate_dst (N := 6) rfl ?_); refine rl_ (Kd.int .i64) 3 6 ([] : List Int) [] ?_; intro v187 w65 ho66 hb hg_ hnew_; clear hg_ hnew_; (first | rw [← Ny186.out] at ho66 | (simp only [Int.reduceToNat] at ho66; rw [← Ny186.out] at ho66)); have HO188 := Aside0.mk (Kd.R_lower (Kd.R_new' ho66 (Kd.R_lt (by (with_reducible repeat (first | apply Kd.R_alloc | apply Kd.R_drewN | apply Kd.R_drew)); exact (Kd.R_mono (Kd.R_far (p := ⟨gb185, 1, none⟩) (Kd.R_far (p := ⟨gb185, 0, none⟩) (Kd.R_types HO183.out BK185.out (by decide)) (fun _ hk => hk.2) (.string t180)) (fun _ hk => hk.2) (.slice Ao64 t181.length co64)) (fun _ h_ => h_.1))))) ks_); replace HO183 := Aside0.mk (Kd.R_elder' (by (with_reducible repeat (first | apply Kd.R_alloc | apply Kd.R_drewN | apply Kd.R_drew)); exact (Kd.R_mono (Kd.R_far (p := ⟨gb185, 1, none⟩) (Kd.R_far (p := ⟨gb185, 0, none⟩) (Kd.R_types HO183.out BK185.out (by decide)) (fun _ hk => hk.2) (.string t180)) (fun _ hk => hk.2) (.slice Ao64 t181.length co64)) (fun _ h_ => h_.1))) (Kd.R_base ho66) hb); replace BK179 := Aside0.mk (blk_below (g := gb179) (o := .cells #[.string (⟨#[]⟩ : ByteArray), .slice none 0 0] 42 (0, 0)) bq_ hb); replace BK185 := Aside0.mk (blk_below (g := gb185) (o := .cells #[.string t180, .slice Ao64 t181.length co64] 42 (0, 0)) bq_ hb); replace HK := Aside0.mk (KeepBut.trans kp_ (KeepBut.of_below hb g none) (.inl rfl)); replace HB := Aside0.mk (below_step bs_ hb); replace HI0 := Aside0.mk (IsS58.below (show IsS58 w0 ((w60.setCell ⟨gb185, 0, none⟩ (.string t180)).setCell ⟨gb185, 1, none⟩ (.slice Ao64 t181.length co64)) g s0_0 t184 from is58_) hb); clear hb ho66; have hcz67_0 := bc0_ BK185; have hcz67_1 := bc1_ BK185; have hfz67_0 := blk_frozen BK185.out 0; have hfz67_1 := blk_frozen BK185.out 1) | ((with_reducible refine gate_builtin (b := .append) (xs := #[.tmp 6, .tmp 8]) rfl ?_); at_builtin; refine Kd.R_append_rows (Kd.int .i64) w.heap.size rfl (.tmp 6) (.tmp 8) 29 3 (.int .i64 0) 8 rfl Tryd.underlying29 info3 rfl (by decide) (by omega) v187 y186 t181 _ _ _ (fun k_ => some k_ ≠ (.slice Ao64 t181.length co64 : Value).ownBlock) (fun _ => False) rfl rfl ?aO ?aR (fun _ _ h => h) (fun _ h => h.elim) ?aF (Below.refl _ _) ?aS ?aL ?_; (case aR => exact cr_ HO183); (case aF => exact (fun k_ hk => Kd.fresh' (Kd.R_lt (kR_ HO183)) k_ hk)); (case aO => exact (by (with_reducible repeat (first | apply Kd.R_alloc | apply Kd.R_drewN | apply Kd.R_drew)); exact Kd.R_mono HO188.out (fun _ hk => hk.2))); (case aS => exact ks_); (case aL => have := LMc3.out; omega); intro v190 w68 ho hb hg hat; rw [← Ny189.out] at ho; replace BK179 := Aside0.mk (blk_grown (bk_ BK179) hg (Kd.R_ne HO188.out BK179.out (by decide))); replace HO183 := Aside0.mk (Kd.R_after (ok := (fun _ => True)) (kR_ HO183) hg hat); replace BK185 := Aside0.mk (blk_grown (bk_ BK185) hg (Kd.R_ne HO188.out BK185.out (by decide))); replace HB := Aside0.mk (below_weaken bs_ HL.out hb); replace HI0 := Aside0.mk (IsS58.grown is58_ hg (IsS58.own_ne HI0.out HO188.out (by decide))); replace HK := Aside0.mk (KeepBut.trans kp_ (KeepBut.of_grown hg g) (Kd.R_base2 HO188.out)); have HO191 := Aside0.mk (ho); clear HO188; clear ho hb hg hat; obtain ⟨Ao69, co69, eo69⟩ := Kd.R_slice HO191.out; subst eo69; have hcz70_0 := bc0_ BK185; have hcz70_1 := bc1_ BK185; have hfz70_0 := blk_frozen BK185.out 0; have hfz70_1 := blk_frozen BK185.out 1) | ((with_reducible refine gate_callee (f := 25) rfl ?_); refine gl_ 12 Tryd.func25 #[.pointer (some ⟨g, 0, none⟩), .int .i64 10] ?_; (with_reducible refine (spec_l1Rd_pick.calls k g s0_0 t184 10 t192 t193 w0 _ ?side1 ?side2 A4.out).mono ?_); (case side1 => exact is58_); (case side2 => exact bs_); rintro e w71 ⟨rfl, hi, hb, hk⟩; refine ⟨_, rfl, ?_⟩; replace BK179 := Aside0.mk (KeepBut.blk hk (g' := gb179) (o := .cells #[.string (⟨#[]⟩ : ByteArray), .slice none 0 0] 42 (0, 0)) bq_ NB179_0.out (by simp)); replace HO183 := Aside0.mk (Kd.R_mono (Kd.R_keep (IsS58.apart (show IsS58 w0 _ g s0_0 t184 from is58_) (by (with_reducible repeat (first | apply Kd.R_alloc | apply Kd.R_drewN | apply Kd.R_drew)); exact (Kd.R_mono (Kd.R_far (p := ⟨gb185, 1, none⟩) (Kd.R_types HO183.out BK185.out (by decide)) (fun _ hk => hk.2) (.slice Ao69 y189.length co69)) (fun _ h_ => h_.1))) (by decide)) hk (fun _ h => h.2)) (fun _ h => h.1)); replace HO191 := Aside0.mk (Kd.R_mono (Kd.R_keep (IsS58.apart (show IsS58 w0 _ g s0_0 t184 from is58_) (by (with_reducible repeat (first | apply Kd.R_alloc | apply Kd.R_drewN | apply Kd.R_drew)); exact (Kd.R_mono (Kd.R_far (p := ⟨gb185, 1, none⟩) (Kd.R_types HO191.out BK185.out (by decide)) (fun _ hk => hk.2) (.slice Ao69 y189.length co69)) (fun _ h_ => h_.1))) (by decide)) hk (fun _ h => h.2)) (fun _ h => h.1)); replace BK185 := Aside0.mk (KeepBut.blk hk (g' := gb185) (o := .cells #[.string t180, .slice Ao69 y189.length co69] 42 (0, 0)) bq_ NB185_0.out (by simp)); replace HK := Aside0.mk (KeepBut.trans kp_ hk (.inl rfl)); replace HB := Aside0.mk (hb); replace HI0 := Aside0.mk (hi); (try clear hb); (try clear hb2); (try clear hk); (try clear hi); have hcz72_0 := bc0_ BK185; have hcz72_1 := bc1_ BK185; have hfz72_0 := blk_frozen BK185.out 0; have hfz72_1 := blk_frozen BK185.out 1) | ((with_reducible refine gate_builtin (b := .append) (xs := #[.tmp 30, .tmp 31]) rfl ?_); at_builtin; refine Kd.R_append (Kd.int .i64) w.heap.size rfl (.tmp 30) (.tmp 31) 29 3 (.int .i64 0) 8 rfl Tryd.underlying29 info3 rfl (by decide) (by omega) (.slice Ao69 y189.length co69) y189 1 [.int .i64 1] (fun k_ => some k_ ≠ (.slice Ao64 t181.length co64 : Value).ownBlock) (fun _ => False) rfl rfl ?aP (fun _ hk => hk.elim) ?aF ?aO (Below.refl _ _) ?aS ?aL ?_; (case aP => exact rfl); (case aF => exact (fun k_ hk => Kd.fresh' (Kd.R_lt (kR_ HO183)) k_ hk)); (case aO => exact (kR_ HO191)); (case aS => exact ks_); (case aL => have := LMc57.out; omega); intro v206 w73 ho hb hg hat; rw [← Ny205.out] at ho; replace BK179 := Aside0.mk (blk_grown (bk_ BK179) hg (Kd.R_ne HO191.out BK179.out (by decide))); replace HO183 := Aside0.mk (Kd.R_after (ok := (fun _ => True)) (kR_ HO183) hg hat); replace BK185 := Aside0.mk (blk_grown (bk_ BK185) hg (Kd.R_ne HO191.out BK185.out (by decide))); replace HB := Aside0.mk (below_weaken bs_ HL.out hb); replace HI0 := Aside0.mk (IsS58.grown is58_ hg (IsS58.own_ne HI0.out HO191.out (by decide))); replace HK := Aside0.mk (KeepBut.trans kp_ (KeepBut.of_grown hg g) (Kd.R_base2 HO191.out)); have HO207 := Aside0.mk (ho); clear HO191; clear ho hb hg hat; obtain ⟨Ao74, co74, eo74⟩ := Kd.R_slice HO207.out; subst eo74; have hcz75_0 := bc0_ BK185; have hcz75_1 := bc1_ BK185; have hfz75_0 := blk_frozen BK185.out 0; have hfz75_1 := blk_frozen BK185.out 1; have hnb76 := NB179_0.out; have hnc76 := NB0_179.out; have hcz77_0 := bc0_ BK179; have hcz77_1 := bc1_ BK179; have hfz77_0 := blk_frozen BK179.out 0; have hfz77_1 := blk_frozen BK179.out 1))
 refine bodyPost_ret (results_cell_row rfl _ _ gb179 42 #[.string t180, .slice Ao74 y205.length co74] (0, 0) _ rfl bq_ Tryd.underlying42 rfl (by kernel_rfl)) rfl ?_
 exact ⟨_, rfe_, by (with_reducible repeat (first | apply Kd.R_alloc | apply Kd.R_drewN | apply Kd.R_drew)); exact Kd.R_mono (Kd.R_far (p := ⟨gb179, 1, none⟩) (Kd.R_far (p := ⟨gb179, 0, none⟩) (Kd.R_far (p := ⟨gb185, 1, none⟩) (Kd.R_types (Kd.R_types HO207.out BK185.out (by decide)) BK179.out (by decide)) (fun _ hk => hk.1.2) (.slice Ao74 y205.length co74)) (fun _ hk => hk.2) (.string t180)) (fun _ hk => hk.2) (.slice Ao74 y205.length co74)) (fun _ hk => trivial), is58_, bs_, kp_⟩

/-! ### spec_l13Patterns: function 28 -/
mutual
def spec_l13Patterns.l0 : Nat → List (S42) → Int → List Int → Int → Option ((List (S42)) × Int)
 | 0, _, _, _, _ => none
 | k + 1, x3, x4, x1000, x1001 => if x4 > 0 then ((spec_l13Pattern.f k x1000 x1001).bind fun bt213 => (if x3.length < 3518437208883 then (spec_l13Patterns.l0 k (x3 ++ [(⟨bt213.1, bt213.2.1⟩ : S42)]) (wrap64 (x4 - 1)) x1000 bt213.2.2) else (none))) else ((spec_l1Rd_pick.f k x1000 x1001 20).bind fun bt221 => (if bt221.1 = 0 then ((spec_l13AnyPattern.f k x1000 bt221.2).bind fun bt223 => (if x3.length < 3518437208883 then (spec_l13Patterns.j1 k (x3 ++ [(⟨bt223.1, bt223.2.1⟩ : S42)]) x1000 bt223.2.2) else (none))) else (spec_l13Patterns.j1 k x3 x1000 bt221.2)))
def spec_l13Patterns.j1 : Nat → List (S42) → List Int → Int → Option ((List (S42)) × Int)
 | 0, _, _, _ => none
 | k + 1, x3, x1000, x1001 => (spec_l1Rd_pick.f k x1000 x1001 30).bind fun bt231 => (if bt231.1 = 0 then (spec_l13Patterns.l1 k x3 x1000 bt231.2) else (some (x3, bt231.2)))
def spec_l13Patterns.l1 : Nat → List (S42) → List Int → Int → Option ((List (S42)) × Int)
 | 0, _, _, _ => none
 | k + 1, x3, x1000, x1001 => (spec_l1Rd_pick.f k x1000 x1001 2).bind fun bt233 => (if (x3.length : Int) < (wrap64 (20 + bt233.1)) then ((spec_l13Pattern.f k x1000 bt233.2).bind fun bt235 => (if x3.length < 3518437208883 then (spec_l13Patterns.l1 k (x3 ++ [(⟨bt235.1, bt235.2.1⟩ : S42)]) x1000 bt235.2.2) else (none))) else (some (x3, bt233.2)))
end
def spec_l13Patterns.f (k : Nat) (s0_0 : List Int) (s0_1 : Int) : Option ((List (S42)) × Int) := (spec_l1Rd_pick.f k s0_0 s0_1 8).bind fun bt211 => (spec_l13Patterns.l0 k (([] : List (S42))) bt211.1 s0_0 bt211.2)
theorem spec_l13Patterns.mono_l : ∀ k, (∀ y0 y1 y2 y3, LeO (spec_l13Patterns.l0 k y0 y1 y2 y3) (spec_l13Patterns.l0 (k + 1) y0 y1 y2 y3)) ∧ (∀ y0 y1 y2, LeO (spec_l13Patterns.j1 k y0 y1 y2) (spec_l13Patterns.j1 (k + 1) y0 y1 y2)) ∧ (∀ y0 y1 y2, LeO (spec_l13Patterns.l1 k y0 y1 y2) (spec_l13Patterns.l1 (k + 1) y0 y1 y2))
 | 0 => ⟨fun _ _ _ _ r h => by simp [spec_l13Patterns.l0] at h, fun _ _ _ r h => by simp [spec_l13Patterns.j1] at h, fun _ _ _ r h => by simp [spec_l13Patterns.l1] at h⟩
 | k + 1 => by
  obtain ⟨ih0, ih1, ih2⟩ := spec_l13Patterns.mono_l k
  refine ⟨?_, ?_, ?_⟩
  · intro y0 y1 y2 y3
    unfold spec_l13Patterns.l0
    have m0 := @spec_l13AnyPattern.mono
    have m1 := @spec_l13Pattern.mono
    have m2 := @spec_l1Rd_pick.mono
    exact mn_
  · intro y0 y1 y2
    unfold spec_l13Patterns.j1
    have m0 := @spec_l13AnyPattern.mono
    have m1 := @spec_l13Pattern.mono
    have m2 := @spec_l1Rd_pick.mono
    exact mn_
  · intro y0 y1 y2
    unfold spec_l13Patterns.l1
    have m0 := @spec_l13AnyPattern.mono
    have m1 := @spec_l13Pattern.mono
    have m2 := @spec_l1Rd_pick.mono
    exact mn_
theorem spec_l13Patterns.mono : ∀ a0 a1 k, LeO (spec_l13Patterns.f k a0 a1) (spec_l13Patterns.f (k + 1) a0 a1) := by
 intro a0 a1 k
 obtain ⟨ih0, ih1, ih2⟩ := spec_l13Patterns.mono_l k
 unfold spec_l13Patterns.f
 have m0 := @spec_l13AnyPattern.mono
 have m1 := @spec_l13Pattern.mono
 have m2 := @spec_l1Rd_pick.mono
 exact mn_
theorem spec_l13Patterns.calls (k : Nat) (g : Nat) (s0_0 : List Int) (s0_1 : Int) (r1 : List (S42)) (r2 : Int) (w0 w : World) (hI : IsS58 w0 w g s0_0 s0_1) (hB : Below w0.heap.size w0 w) (h : spec_l13Patterns.f k s0_0 s0_1 = some (r1, r2)) :
 Calls Tryd.prog 28 #[.pointer (some ⟨g, 0, none⟩)] w fun e w' => ∃ v0_ : Value, e = .returned (v0_) ∧ Kd.S k42 42 w' w.heap.size (fun _ => True) v0_ r1 ∧ IsS58 w0 w' g s0_0 r2 ∧ Below w0.heap.size w0 w' ∧ KeepBut w w' g none := by
 have HI0 := Aside0.mk hI
 have HK := Aside0.mk (KeepBut.refl w g none)
 have HL := Aside0.mk hB.size
 clear hI
 have HW0 := Aside0.mk hB.size
 have HB := Aside0.mk hB
 clear hB
 unfold spec_l13Patterns.f at h; have H := h; clear h
 obtain ⟨y208, hy_⟩ : ∃ y_ : List (S42), y_ = (([] : List (S42))) := ⟨_, rfl⟩
 replace H : ((spec_l1Rd_pick.f k s0_0 s0_1 8).bind fun bt211 => (spec_l13Patterns.l0 k y208 bt211.1 s0_0 bt211.2)) = some (r1, r2) := ry_
 have Ny208 := Aside0.mk hy_; clear hy_
 replace H := Option.bind_eq_some_iff.mp H
 obtain ⟨⟨t211, t212⟩, A20, H⟩ := H; try dsimp -simprocs only at H
 have A2 := Aside0.mk A20
 clear A20
 have H' := Aside0.mk H; clear H
 go_enter Tryd.func28, Tryd.ntmps28
 go_wp2_with (first | ((with_reducible refine gate_dst (N := 5) rfl ?_); refine sl_ k42 42 5 ([] : List (S42)) [] ?_; intro v209 w3 ho4 hb hg_ hnew_; clear hg_ hnew_; (first | rw [← Ny208.out] at ho4 | (simp only [Int.reduceToNat] at ho4; rw [← Ny208.out] at ho4)); have HO210 := Aside0.mk (Kd.S_lower ho4 ks_); replace HK := Aside0.mk (KeepBut.trans kp_ (KeepBut.of_below hb g none) (.inl rfl)); replace HB := Aside0.mk (below_step bs_ hb); replace HI0 := Aside0.mk (IsS58.below is58_ hb); clear hb ho4) | ((with_reducible refine gate_callee (f := 25) rfl ?_); refine gl_ 7 Tryd.func25 #[.pointer (some ⟨g, 0, none⟩), .int .i64 8] ?_; (with_reducible refine (spec_l1Rd_pick.calls k g s0_0 s0_1 8 t211 t212 w0 _ ?side1 ?side2 A2.out).mono ?_); (case side1 => exact is58_); (case side2 => exact bs_); rintro e w5 ⟨rfl, hi, hb, hk⟩; refine ⟨_, rfl, ?_⟩; replace HO210 := Aside0.mk (kaS58_ (kS_ HO210) hk); replace HK := Aside0.mk (KeepBut.trans kp_ hk (.inl rfl)); replace HB := Aside0.mk (hb); replace HI0 := Aside0.mk (hi); (try clear hb); (try clear hb2); (try clear hk); (try clear hi)))
 go_loopg [3, 4] k (fun kq v3 v4 w' => ∃ (x3_1 : List (S42)) (x4_1 : Int) (x1001_1 : Int), v4 = .int .i64 x4_1 ∧ Aside0 (spec_l13Patterns.l0 kq x3_1 x4_1 s0_0 x1001_1 = some (r1, r2)) ∧ Aside0 (kq ≤ k) ∧ Aside0 (Kd.S k42 42 w' w.heap.size (fun _ => True) v3 x3_1) ∧ Aside0 (IsS58 w0 w' g s0_0 x1001_1) ∧ Aside0 (KeepBut w w' g none) ∧ Aside0 (Below w0.heap.size w0 w'))
 case atStart => exact ⟨(y208), (t211), (t212), rf_, H', ⟨Nat.le_refl _⟩, ⟨kS_ HO210⟩, ⟨is58_⟩, ⟨kp_⟩, ⟨bs_⟩⟩
 case round =>
  clear H'
  (try clear c2);(try clear p2)
  obtain ⟨x3_1, x4_1, x1001_1, rfl, HA, HK1, HO_3, HI0, HK, HB⟩ := hrel
  cases gk with
  | zero => exact absurd HA.out (by simp [spec_l13Patterns.l0])
  | succ k1 =>
   have H := HA.out
   clear HA
   simp only [spec_l13Patterns.l0] at H
   replace H := itcc_ H; rcases H with ⟨c6, H⟩ | ⟨c6, H⟩
   · have c6b0 : decide (0 < x4_1) = true := decide_eq_true c6
     clear c6
     replace H := Option.bind_eq_some_iff.mp H
     obtain ⟨⟨t213, t214, t217⟩, A70, H⟩ := H; try dsimp -simprocs only at H
     have A7 := Aside0.mk A70
     clear A70
     replace H := inc_ H; obtain ⟨c8, H⟩ := H
     have LMc8 := Aside0.mk c8
     clear c8
     obtain ⟨y218, hy_⟩ : ∃ y_ : List (S42), y_ = (x3_1 ++ [(⟨t213, t214⟩ : S42)]) := ⟨_, rfl⟩
     replace H : (spec_l13Patterns.l0 k1 y218 (wrap64 (x4_1 - 1)) s0_0 t217) = some (r1, r2) := ry_
     have Ny218 := Aside0.mk hy_; clear hy_
     have H' := Aside0.mk H; clear H
     go_wp2_with (first | ((with_reducible refine gate_callee (f := 44) rfl ?_); refine gl_ 14 Tryd.func44 #[.pointer (some ⟨g, 0, none⟩)] ?_; (with_reducible refine (spec_l13Pattern.calls k1 g s0_0 x1001_1 t213 t214 t217 w0 _ ?side1 ?side2 A7.out).mono ?_); (case side1 => exact is58_); (case side2 => exact bs_); rintro e w9 ⟨v215, rfl, ho0, hi, hb, hk⟩; refine ⟨_, rfl, ?_⟩; replace HO_3 := Aside0.mk (Kd.S_mono (Kd.S_told (Kd.S_oldK (IsS58.apartS (show IsS58 w0 _ g s0_0 x1001_1 from is58_) (kS_ HO_3) (by decide)) hk) (Kd.R_base ho0)) (fun _ h_ => h_.1)); have HO216 := Aside0.mk (Kd.R_lower ho0 ks_); replace HK := Aside0.mk (KeepBut.trans kp_ hk (.inl rfl)); replace HB := Aside0.mk (hb); replace HI0 := Aside0.mk (hi); (try clear hb); (try clear hb2); (try clear hk); (try clear hi); (try clear ho0); obtain ⟨Ao11, co11, eo11⟩ := Kd.R_slice HO216.out; subst eo11) | ((with_reducible refine gate_builtin (b := .append) (xs := #[.tmp 12, .tmp 15]) rfl ?_); at_builtin; refine Kd.S_append k42 w.heap.size rfl (.tmp 12) (.tmp 15) 23 42 (.agg #[(.string ⟨#[]⟩), (.slice none 0 0)]) 40 rfl Tryd.underlying23 info42 rfl (by decide) (by omega) u3 x3_1 (⟨t213, t214⟩ : S42) [.string t213, .slice Ao11 t214.length co11] (fun _ => True) (fun k_ => some k_ = (.slice Ao11 t214.length co11 : Value).ownBlock) rfl rfl ?aP (fun k_ hk_ => ((Kd.R_mono (ok' := fun k_ => ((fun _ => True)) k_ ∧ some k_ ≠ (u3 : Value).ownBlock) (Kd.R_apart' (HO216.out) (Kd.S_typed HO_3.out) (by decide)) (fun k_ hk => ⟨trivial, hk.2⟩))).1 k_ hk_.symm) ?aF ?aO (Below.refl _ _) ?aS ?aL ?_; (case aP => exact k42_mkM _ _ _ (⟨t213, t214⟩ : S42) (Kd.R_mono (Kd.R_tight rfl (Kd.R_mono (ok' := fun k_ => ((fun _ => True)) k_ ∧ some k_ ≠ (u3 : Value).ownBlock) (Kd.R_apart' (HO216.out) (Kd.S_typed HO_3.out) (by decide)) (fun k_ hk => ⟨trivial, hk.2⟩))) (fun _ h_ => h_))); (case aF => exact (fun _ _ => trivial)); (case aO => exact (by (with_reducible repeat (first | apply Kd.S_alloc | apply Kd.S_drewN | apply Kd.S_drew)); exact Kd.S_mono HO_3.out (fun k_ hk => ⟨trivial, fun e_ => hk.2 e_⟩))); (case aS => exact ks_); (case aL => have := LMc8.out; omega); intro v219 w10 ho hb hg hat; rw [← Ny218.out] at ho; replace HB := Aside0.mk (below_weaken bs_ HL.out hb); replace HI0 := Aside0.mk (IsS58.grown is58_ hg (IsS58.own_neS HI0.out HO_3.out (by decide))); replace HK := Aside0.mk (KeepBut.trans kp_ (KeepBut.of_grown hg g) (Kd.S_base2 HO_3.out)); have HO220 := Aside0.mk (ho); clear HO_3 HO216; clear ho hb hg hat))
     go_roundg k1
     case measure => have := HK1.out; omega
     case rel => exact ⟨(y218), (wrap64 (x4_1 - 1)), (t217), rf_, H', ⟨by have := HK1.out; omega⟩, ⟨kS_ HO220⟩, ⟨is58_⟩, ⟨kp_⟩, ⟨bs_⟩⟩
   have c6b0 : decide (0 < x4_1) = false := decide_eq_false c6
   clear c6
   replace H := Option.bind_eq_some_iff.mp H
   obtain ⟨⟨t221, t222⟩, A120, H⟩ := H; try dsimp -simprocs only at H
   have A12 := Aside0.mk A120
   clear A120
   have HC13 := Aside0.mk H
   clear H
   go_upto_if 19 with (first | ((with_reducible refine gate_callee (f := 25) rfl ?_); refine gl_ 18 Tryd.func25 #[.pointer (some ⟨g, 0, none⟩), .int .i64 20] ?_; (with_reducible refine (spec_l1Rd_pick.calls k1 g s0_0 x1001_1 20 t221 t222 w0 _ ?side1 ?side2 A12.out).mono ?_); (case side1 => exact is58_); (case side2 => exact bs_); rintro e w14 ⟨rfl, hi, hb, hk⟩; refine ⟨_, rfl, ?_⟩; replace HO_3 := Aside0.mk (kaS58_ (kS_ HO_3) hk); replace HK := Aside0.mk (KeepBut.trans kp_ hk (.inl rfl)); replace HB := Aside0.mk (hb); replace HI0 := Aside0.mk (hi); (try clear hb); (try clear hb2); (try clear hk); (try clear hi)))
   (try simp only [Act.put, List.setIfInBounds_toArray, List.set_cons_zero, List.set_cons_succ])
   go_cut [3] (fun v3 wc => ∃ (kq : Nat) (x3_12 : List (S42)) (x1001_12 : Int), Aside0 (spec_l13Patterns.j1 kq x3_12 s0_0 x1001_12 = some (r1, r2)) ∧ Aside0 (kq ≤ k1) ∧ Aside0 (Kd.S k42 42 wc w.heap.size (fun _ => True) v3 x3_12) ∧ Aside0 (IsS58 w0 wc g s0_0 x1001_12) ∧ Aside0 (KeepBut w wc g none) ∧ Aside0 (Below w0.heap.size w0 wc))
   case first =>
    have H := HC13.out
    clear HC13
    replace H := iucc_ H; rcases H with ⟨c15, H⟩ | ⟨c15, H⟩
    · have c15b0 : (t221 == 0) = false := beq_eq_false_iff_ne.mpr c15
      have c15b1 : (t221 != 0) = true := bne_iff_ne.mpr c15
      (first | rw [c15b0] | (simp only [i64_w, i32_w]; rw [c15b0]) | skip)
      have H' := Aside0.mk H; clear H
      go_wp2
      go_meet
      case rel => exact ⟨_, (x3_1), (t222), H', ⟨by have := HK1.out; first | omega | exact Nat.le_refl _⟩, ⟨kS_ HO_3⟩, ⟨is58_⟩, ⟨kp_⟩, ⟨bs_⟩⟩
    have c15b0 : (t221 == 0) = true := beq_iff_eq.mpr c15
    have c15b1 : (t221 != 0) = false := bne_eq_false_iff_eq.mpr c15
    clear c15
    (first | rw [c15b0] | (simp only [i64_w, i32_w]; rw [c15b0]) | skip)
    replace H := Option.bind_eq_some_iff.mp H
    obtain ⟨⟨t223, t224, t227⟩, A160, H⟩ := H; try dsimp -simprocs only at H
    have A16 := Aside0.mk A160
    clear A160
    replace H := inc_ H; obtain ⟨c17, H⟩ := H
    have LMc17 := Aside0.mk c17
    clear c17
    obtain ⟨y228, hy_⟩ : ∃ y_ : List (S42), y_ = (x3_1 ++ [(⟨t223, t224⟩ : S42)]) := ⟨_, rfl⟩
    replace H : (spec_l13Patterns.j1 k1 y228 s0_0 t227) = some (r1, r2) := ry_
    have Ny228 := Aside0.mk hy_; clear hy_
    have H' := Aside0.mk H; clear H
    go_wp2_with (first | ((with_reducible refine gate_callee (f := 45) rfl ?_); refine gl_ 22 Tryd.func45 #[.pointer (some ⟨g, 0, none⟩)] ?_; (with_reducible refine (spec_l13AnyPattern.calls k1 g s0_0 t222 t223 t224 t227 w0 _ ?side1 ?side2 A16.out).mono ?_); (case side1 => exact is58_); (case side2 => exact bs_); rintro e w18 ⟨v225, rfl, ho0, hi, hb, hk⟩; refine ⟨_, rfl, ?_⟩; replace HO_3 := Aside0.mk (Kd.S_mono (Kd.S_told (Kd.S_oldK (IsS58.apartS (show IsS58 w0 _ g s0_0 t222 from is58_) (kS_ HO_3) (by decide)) hk) (Kd.R_base ho0)) (fun _ h_ => h_.1)); have HO226 := Aside0.mk (Kd.R_lower ho0 ks_); replace HK := Aside0.mk (KeepBut.trans kp_ hk (.inl rfl)); replace HB := Aside0.mk (hb); replace HI0 := Aside0.mk (hi); (try clear hb); (try clear hb2); (try clear hk); (try clear hi); (try clear ho0); obtain ⟨Ao20, co20, eo20⟩ := Kd.R_slice HO226.out; subst eo20) | ((with_reducible refine gate_builtin (b := .append) (xs := #[.tmp 20, .tmp 23]) rfl ?_); at_builtin; refine Kd.S_append k42 w.heap.size rfl (.tmp 20) (.tmp 23) 23 42 (.agg #[(.string ⟨#[]⟩), (.slice none 0 0)]) 40 rfl Tryd.underlying23 info42 rfl (by decide) (by omega) u3 x3_1 (⟨t223, t224⟩ : S42) [.string t223, .slice Ao20 t224.length co20] (fun _ => True) (fun k_ => some k_ = (.slice Ao20 t224.length co20 : Value).ownBlock) rfl rfl ?aP (fun k_ hk_ => ((Kd.R_mono (ok' := fun k_ => ((fun _ => True)) k_ ∧ some k_ ≠ (u3 : Value).ownBlock) (Kd.R_apart' (HO226.out) (Kd.S_typed HO_3.out) (by decide)) (fun k_ hk => ⟨trivial, hk.2⟩))).1 k_ hk_.symm) ?aF ?aO (Below.refl _ _) ?aS ?aL ?_; (case aP => exact k42_mkM _ _ _ (⟨t223, t224⟩ : S42) (Kd.R_mono (Kd.R_tight rfl (Kd.R_mono (ok' := fun k_ => ((fun _ => True)) k_ ∧ some k_ ≠ (u3 : Value).ownBlock) (Kd.R_apart' (HO226.out) (Kd.S_typed HO_3.out) (by decide)) (fun k_ hk => ⟨trivial, hk.2⟩))) (fun _ h_ => h_))); (case aF => exact (fun _ _ => trivial)); (case aO => exact (by (with_reducible repeat (first | apply Kd.S_alloc | apply Kd.S_drewN | apply Kd.S_drew)); exact Kd.S_mono HO_3.out (fun k_ hk => ⟨trivial, fun e_ => hk.2 e_⟩))); (case aS => exact ks_); (case aL => have := LMc17.out; omega); intro v229 w19 ho hb hg hat; rw [← Ny228.out] at ho; replace HB := Aside0.mk (below_weaken bs_ HL.out hb); replace HI0 := Aside0.mk (IsS58.grown is58_ hg (IsS58.own_neS HI0.out HO_3.out (by decide))); replace HK := Aside0.mk (KeepBut.trans kp_ (KeepBut.of_grown hg g) (Kd.S_base2 HO_3.out)); have HO230 := Aside0.mk (ho); clear HO_3 HO226; clear ho hb hg hat))
    go_meet
    case rel => exact ⟨_, (y228), (t227), H', ⟨by have := HK1.out; first | omega | exact Nat.le_refl _⟩, ⟨kS_ HO230⟩, ⟨is58_⟩, ⟨kp_⟩, ⟨bs_⟩⟩
   case rest =>
    clear HC13
    (try clear c1);(try clear c2);(try clear p2);(try clear c4);(try clear c6);(try clear c6b0);(try clear p6);(try clear c8);(try clear c15);(try clear c15b0);(try clear c15b1);(try clear c17);(try clear p2)
    obtain ⟨kq, x3_12, x1001_12, HA, HJ12, HO_3, HI0, HK, HB⟩ := hcut
    cases kq with
    | zero => exact absurd HA.out (by simp [spec_l13Patterns.j1])
    | succ kj12 =>
     have H := HA.out
     clear HA
     simp only [spec_l13Patterns.j1] at H
     replace H := Option.bind_eq_some_iff.mp H
     obtain ⟨⟨t231, t232⟩, A210, H⟩ := H; try dsimp -simprocs only at H
     have A21 := Aside0.mk A210
     clear A210
     replace H := iucc_ H; rcases H with ⟨c22, H⟩ | ⟨c22, H⟩
     · have c22b0 : (t231 == 0) = false := beq_eq_false_iff_ne.mpr c22
       have c22b1 : (t231 != 0) = true := bne_iff_ne.mpr c22
       simp only [Option.some.injEq, Prod.mk.injEq] at H
       obtain ⟨rfl, rfl⟩ := H
       go_wp2_with (first | ((with_reducible refine gate_callee (f := 25) rfl ?_); refine gl_ 26 Tryd.func25 #[.pointer (some ⟨g, 0, none⟩), .int .i64 30] ?_; (with_reducible refine (spec_l1Rd_pick.calls kj12 g s0_0 x1001_12 30 t231 t232 w0 _ ?side1 ?side2 A21.out).mono ?_); (case side1 => exact is58_); (case side2 => exact bs_); rintro e w35 ⟨rfl, hi, hb, hk⟩; refine ⟨_, rfl, ?_⟩; replace HO_3 := Aside0.mk (kaS58_ (kS_ HO_3) hk); replace HK := Aside0.mk (KeepBut.trans kp_ hk (.inl rfl)); replace HB := Aside0.mk (hb); replace HI0 := Aside0.mk (hi); (try clear hb); (try clear hb2); (try clear hk); (try clear hi)))
       go_ret
       exact ⟨_, rfe_, kS_ HO_3, is58_, bs_, kp_⟩
     have c22b0 : (t231 == 0) = true := beq_iff_eq.mpr c22
     have c22b1 : (t231 != 0) = false := bne_eq_false_iff_eq.mpr c22
     clear c22
     have H' := Aside0.mk H; clear H
     go_wp2_with (first | ((with_reducible refine gate_callee (f := 25) rfl ?_); refine gl_ 26 Tryd.func25 #[.pointer (some ⟨g, 0, none⟩), .int .i64 30] ?_; (with_reducible refine (spec_l1Rd_pick.calls kj12 g s0_0 x1001_12 30 t231 t232 w0 _ ?side1 ?side2 A21.out).mono ?_); (case side1 => exact is58_); (case side2 => exact bs_); rintro e w23 ⟨rfl, hi, hb, hk⟩; refine ⟨_, rfl, ?_⟩; replace HO_3 := Aside0.mk (kaS58_ (kS_ HO_3) hk); replace HK := Aside0.mk (KeepBut.trans kp_ hk (.inl rfl)); replace HB := Aside0.mk (hb); replace HI0 := Aside0.mk (hi); (try clear hb); (try clear hb2); (try clear hk); (try clear hi)))
     go_loopg [3] kj12 (fun kq v3 w' => ∃ (x3_3 : List (S42)) (x1001_3 : Int), Aside0 (spec_l13Patterns.l1 kq x3_3 s0_0 x1001_3 = some (r1, r2)) ∧ Aside0 (kq ≤ kj12) ∧ Aside0 (Kd.S k42 42 w' w.heap.size (fun _ => True) v3 x3_3) ∧ Aside0 (IsS58 w0 w' g s0_0 x1001_3) ∧ Aside0 (KeepBut w w' g none) ∧ Aside0 (Below w0.heap.size w0 w'))
     case atStart => exact ⟨(x3_12), (t232), H', ⟨Nat.le_refl _⟩, ⟨kS_ HO_3⟩, ⟨is58_⟩, ⟨kp_⟩, ⟨bs_⟩⟩
     case round =>
      clear H'
      (try clear c1);(try clear c2);(try clear p2);(try clear c4);(try clear c6);(try clear c6b0);(try clear p6);(try clear c8);(try clear c15);(try clear c15b0);(try clear c15b1);(try clear c17);(try clear c22);(try clear c22b0);(try clear c22b1);(try clear p2);(try clear p6)
      obtain ⟨x3_3, x1001_3, HA, HK3, HO_3, HI0, HK, HB⟩ := hrel
      cases gk with
      | zero => exact absurd HA.out (by simp [spec_l13Patterns.l1])
      | succ k3 =>
       have H := HA.out
       clear HA
       simp only [spec_l13Patterns.l1] at H
       replace H := Option.bind_eq_some_iff.mp H
       obtain ⟨⟨t233, t234⟩, A240, H⟩ := H; try dsimp -simprocs only at H
       have A24 := Aside0.mk A240
       clear A240
       replace H := iudd_ H; rcases H with ⟨c25b0, H⟩ | ⟨c25b0, H⟩
       · simp only [Option.some.injEq, Prod.mk.injEq] at H
         obtain ⟨rfl, rfl⟩ := H
         obtain ⟨Ao33, co33, eo33⟩ := Kd.S_slice HO_3.out
         subst eo33
         go_wp2_with (first | ((with_reducible refine gate_callee (f := 25) rfl ?_); refine gl_ 31 Tryd.func25 #[.pointer (some ⟨g, 0, none⟩), .int .i64 2] ?_; (with_reducible refine (spec_l1Rd_pick.calls k3 g s0_0 x1001_3 2 t233 t234 w0 _ ?side1 ?side2 A24.out).mono ?_); (case side1 => exact is58_); (case side2 => exact bs_); rintro e w34 ⟨rfl, hi, hb, hk⟩; refine ⟨_, rfl, ?_⟩; replace HO_3 := Aside0.mk (kaS58_ (kS_ HO_3) hk); replace HK := Aside0.mk (KeepBut.trans kp_ hk (.inl rfl)); replace HB := Aside0.mk (hb); replace HI0 := Aside0.mk (hi); (try clear hb); (try clear hb2); (try clear hk); (try clear hi)))
         go_ret
         exact ⟨_, rfe_, kS_ HO_3, is58_, bs_, kp_⟩
       replace H := Option.bind_eq_some_iff.mp H
       obtain ⟨⟨t235, t236, t239⟩, A260, H⟩ := H; try dsimp -simprocs only at H
       have A26 := Aside0.mk A260
       clear A260
       replace H := inc_ H; obtain ⟨c27, H⟩ := H
       have LMc27 := Aside0.mk c27
       clear c27
       obtain ⟨y240, hy_⟩ : ∃ y_ : List (S42), y_ = (x3_3 ++ [(⟨t235, t236⟩ : S42)]) := ⟨_, rfl⟩
       replace H : (spec_l13Patterns.l1 k3 y240 s0_0 t239) = some (r1, r2) := ry_
       have Ny240 := Aside0.mk hy_; clear hy_
       have H' := Aside0.mk H; clear H
       obtain ⟨Ao28, co28, eo28⟩ := Kd.S_slice HO_3.out
       subst eo28
       go_wp2_with (first | ((with_reducible refine gate_callee (f := 25) rfl ?_); refine gl_ 31 Tryd.func25 #[.pointer (some ⟨g, 0, none⟩), .int .i64 2] ?_; (with_reducible refine (spec_l1Rd_pick.calls k3 g s0_0 x1001_3 2 t233 t234 w0 _ ?side1 ?side2 A24.out).mono ?_); (case side1 => exact is58_); (case side2 => exact bs_); rintro e w29 ⟨rfl, hi, hb, hk⟩; refine ⟨_, rfl, ?_⟩; replace HO_3 := Aside0.mk (kaS58_ (kS_ HO_3) hk); replace HK := Aside0.mk (KeepBut.trans kp_ hk (.inl rfl)); replace HB := Aside0.mk (hb); replace HI0 := Aside0.mk (hi); (try clear hb); (try clear hb2); (try clear hk); (try clear hi)) | ((with_reducible refine gate_callee (f := 44) rfl ?_); refine gl_ 36 Tryd.func44 #[.pointer (some ⟨g, 0, none⟩)] ?_; (with_reducible refine (spec_l13Pattern.calls k3 g s0_0 t234 t235 t236 t239 w0 _ ?side1 ?side2 A26.out).mono ?_); (case side1 => exact is58_); (case side2 => exact bs_); rintro e w30 ⟨v237, rfl, ho0, hi, hb, hk⟩; refine ⟨_, rfl, ?_⟩; replace HO_3 := Aside0.mk (Kd.S_mono (Kd.S_told (Kd.S_oldK (IsS58.apartS (show IsS58 w0 _ g s0_0 t234 from is58_) (kS_ HO_3) (by decide)) hk) (Kd.R_base ho0)) (fun _ h_ => h_.1)); have HO238 := Aside0.mk (Kd.R_lower ho0 ks_); replace HK := Aside0.mk (KeepBut.trans kp_ hk (.inl rfl)); replace HB := Aside0.mk (hb); replace HI0 := Aside0.mk (hi); (try clear hb); (try clear hb2); (try clear hk); (try clear hi); (try clear ho0); obtain ⟨Ao32, co32, eo32⟩ := Kd.R_slice HO238.out; subst eo32) | ((with_reducible refine gate_builtin (b := .append) (xs := #[.tmp 34, .tmp 37]) rfl ?_); at_builtin; refine Kd.S_append k42 w.heap.size rfl (.tmp 34) (.tmp 37) 23 42 (.agg #[(.string ⟨#[]⟩), (.slice none 0 0)]) 40 rfl Tryd.underlying23 info42 rfl (by decide) (by omega) (.slice Ao28 x3_3.length co28) x3_3 (⟨t235, t236⟩ : S42) [.string t235, .slice Ao32 t236.length co32] (fun _ => True) (fun k_ => some k_ = (.slice Ao32 t236.length co32 : Value).ownBlock) rfl rfl ?aP (fun k_ hk_ => ((Kd.R_mono (ok' := fun k_ => ((fun _ => True)) k_ ∧ some k_ ≠ (.slice Ao28 x3_3.length co28 : Value).ownBlock) (Kd.R_apart' (HO238.out) (Kd.S_typed HO_3.out) (by decide)) (fun k_ hk => ⟨trivial, hk.2⟩))).1 k_ hk_.symm) ?aF ?aO (Below.refl _ _) ?aS ?aL ?_; (case aP => exact k42_mkM _ _ _ (⟨t235, t236⟩ : S42) (Kd.R_mono (Kd.R_tight rfl (Kd.R_mono (ok' := fun k_ => ((fun _ => True)) k_ ∧ some k_ ≠ (.slice Ao28 x3_3.length co28 : Value).ownBlock) (Kd.R_apart' (HO238.out) (Kd.S_typed HO_3.out) (by decide)) (fun k_ hk => ⟨trivial, hk.2⟩))) (fun _ h_ => h_))); (case aF => exact (fun _ _ => trivial)); (case aO => exact (by (with_reducible repeat (first | apply Kd.S_alloc | apply Kd.S_drewN | apply Kd.S_drew)); exact Kd.S_mono HO_3.out (fun k_ hk => ⟨trivial, fun e_ => hk.2 e_⟩))); (case aS => exact ks_); (case aL => have := LMc27.out; omega); intro v241 w31 ho hb hg hat; rw [← Ny240.out] at ho; replace HB := Aside0.mk (below_weaken bs_ HL.out hb); replace HI0 := Aside0.mk (IsS58.grown is58_ hg (IsS58.own_neS HI0.out HO_3.out (by decide))); replace HK := Aside0.mk (KeepBut.trans kp_ (KeepBut.of_grown hg g) (Kd.S_base2 HO_3.out)); have HO242 := Aside0.mk (ho); clear HO_3 HO238; clear ho hb hg hat))
       go_roundg k3
       case measure => have := HK1.out; have := HJ12.out; have := HK3.out; omega
       case rel => exact ⟨(y240), (t239), H', ⟨by have := HK1.out; have := HJ12.out; have := HK3.out; omega⟩, ⟨kS_ HO242⟩, ⟨is58_⟩, ⟨kp_⟩, ⟨bs_⟩⟩

end Go.Proofs.YtlmbmfnimpjgmaaDoor.P
