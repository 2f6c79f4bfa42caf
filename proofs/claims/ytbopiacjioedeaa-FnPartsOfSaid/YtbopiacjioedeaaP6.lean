-- Written by a program of this session (wip/gen/gen.py) out of Lean's print of the loaded program; Lean checks it.
import Derived.Test.YtbopiacjioedeaaP0
import Derived.Test.YtbopiacjioedeaaSq2
import Derived.Test.YtbopiacjioedeaaP2
import Derived.Test.YtbopiacjioedeaaP3
import Derived.Test.YtbopiacjioedeaaP4
import Derived.Test.YtbopiacjioedeaaP5
namespace Go.Proofs.Ytbopiacjioedeaa.P
open Go.RowKit Go.Proofs.YtbopiacjioedeaaW.PrintWords Go.Proofs.YtbopiacjioedeaaW.PrintLast Go.Proofs.YtbopiacjioedeaaW.PrintMore
attribute [local go_sem] max2_int min2_int max_two min_two max_three min_three max_four min_four IntKind.wrap_u8 IntKind.wrap_u32 w64_256 w64_u32
set_option maxHeartbeats 8000000
set_option maxRecDepth 100000
set_option linter.unusedVariables false
set_option linter.unusedSimpArgs false

/-! ### spec_l13AnyBook: function 18 -/
def spec_l13AnyBook.f (k : Nat) (s0_0 : List Int) (s0_1 : Int) : Option ((List (S68)) × (List (S73)) × Int) := (spec_l13Book.f k s0_0 s0_1).bind fun bt234 => ((spec_l1Rd_pick.f k s0_0 bt234.2.2 16).bind fun bt242 => (if bt242.1 = 0 then ((spec_l13AnyAffix.f k s0_0 bt242.2).bind fun bt244 => (if bt234.1.length < 1954687338268 then (some ((bt234.1 ++ [(⟨bt244.1, bt244.2.1, bt244.2.2.1, bt244.2.2.2.1, bt244.2.2.2.2.1⟩ : S68)]), bt234.2.1, bt244.2.2.2.2.2)) else (none))) else (if bt242.1 = 1 then ((spec_l13AnyWord.f k s0_0 bt242.2).bind fun bt253 => ((spec_l1Rd_of.f k s0_0 bt253.2 (([(⟨#[]⟩ : ByteArray), (⟨#[83, 71]⟩ : ByteArray), (⟨#[115]⟩ : ByteArray), (⟨#[65, 66, 67, 68, 69]⟩ : ByteArray)] : List ByteArray))).bind fun bt258 => (if bt234.2.1.length < 4398046511104 then (some (bt234.1, (bt234.2.1 ++ [(⟨bt253.1, bt258.1⟩ : S73)]), bt258.2)) else (none)))) else (if bt242.1 = 2 then (if (bt234.2.1.length : Int) > 0 then ((spec_l1Rd_of.f k s0_0 bt242.2 (([(⟨#[]⟩ : ByteArray), (⟨#[122, 122]⟩ : ByteArray), (⟨#[65]⟩ : ByteArray)] : List ByteArray))).bind fun bt266 => (if 0 < (bt234.2.1.length : Int) then (some (bt234.1, (bt234.2.1.set (0 : Int).toNat (⟨bt266.1, (rd_T73 bt234.2.1 0).f1⟩ : S73)), bt266.2)) else (none))) else (some (bt234.1, bt234.2.1, bt242.2))) else (some (bt234.1, bt234.2.1, bt242.2))))))
theorem spec_l13AnyBook.mono : ∀ a0 a1 k, LeO (spec_l13AnyBook.f k a0 a1) (spec_l13AnyBook.f (k + 1) a0 a1) := by
 intro a0 a1 k
 unfold spec_l13AnyBook.f
 have m0 := @spec_l13AnyAffix.mono
 have m1 := @spec_l13AnyWord.mono
 have m2 := @spec_l13Book.mono
 have m3 := @spec_l1Rd_of.mono
 have m4 := @spec_l1Rd_pick.mono
 exact mn_
def spec_l13AnyBook.T4 : Bool × List (List Nat × List Nat) := (true, [([], []), ([0], [0]), ([], []), ([2], [2]), ([3], [3]), ([1, 4, 3], [1, 4]), ([0, 1, 2, 3, 4, 5], []), ([6, 5, 5, 0, 1, 2, 3, 4, 5], [5, 6])])
def spec_l13AnyBook.B4 : List Nat := [0, 1, 0, 4, 12, 31, 63, 127]
theorem spec_l13AnyBook.tab4 : rtab .any (opsOf Try.f18 4) = spec_l13AnyBook.T4 := by kernel_rfl
theorem spec_l13AnyBook.bits4 : waitsOk spec_l13AnyBook.T4.2 spec_l13AnyBook.B4 = true := by kernel_rfl
def spec_l13AnyBook.T6 : Bool × List (List Nat × List Nat) := (true, [([], []), ([0], [0]), ([], []), ([2], [2]), ([], []), ([], []), ([4, 5, 3], [4, 5]), ([3, 6], [3, 6]), ([7], [7]), ([1, 8, 6], [1, 8]), ([0, 1, 2, 3, 4, 5, 6, 7, 8, 9], []), ([10, 9, 9, 0, 1, 2, 3, 4, 5, 6, 7, 8, 9], [9, 10])])
def spec_l13AnyBook.B6 : List Nat := [0, 1, 0, 4, 0, 0, 60, 124, 252, 511, 1023, 2047]
theorem spec_l13AnyBook.tab6 : rtab .any (opsOf Try.f18 6) = spec_l13AnyBook.T6 := by kernel_rfl
theorem spec_l13AnyBook.bits6 : waitsOk spec_l13AnyBook.T6.2 spec_l13AnyBook.B6 = true := by kernel_rfl
def spec_l13AnyBook.T9 : Bool × List (List Nat × List Nat) := (true, [([], []), ([0], [0]), ([], []), ([], []), ([2, 3], [2, 3]), ([1, 0, 1, 2, 3, 4], [1]), ([5, 0, 1, 2, 3, 4], [5]), ([6, 4, 4, 0, 1, 2, 3, 4], [4, 6])])
def spec_l13AnyBook.B9 : List Nat := [0, 1, 0, 0, 12, 31, 63, 127]
theorem spec_l13AnyBook.tab9 : rtab .any (opsOf Try.f18 9) = spec_l13AnyBook.T9 := by kernel_rfl
theorem spec_l13AnyBook.bits9 : waitsOk spec_l13AnyBook.T9.2 spec_l13AnyBook.B9 = true := by kernel_rfl
theorem spec_l13AnyBook.calls (k : Nat) (g : Nat) (s0_0 : List Int) (s0_1 : Int) (r1 : List (S68)) (r2 : List (S73)) (r3 : Int) (w0 w : World) (hI : IsS66 w0 w g s0_0 s0_1) (hB : Below w0.heap.size w0 w) (h : spec_l13AnyBook.f k s0_0 s0_1 = some (r1, r2, r3)) :
 Calls Try.prog 18 #[.pointer (some ⟨g, 0, none⟩)] w fun e w' => ∃ v0_ v1_ : Value, e = .returned (.agg #[v0_, v1_]) ∧ Kd.R k68 68 w' w.heap.size (fun _ => True) v0_ r1 ∧ Kd.R k73 73 w' w.heap.size (fun _ => True) v1_ r2 ∧ IsS66 w0 w' g s0_0 r3 ∧ Below w0.heap.size w0 w' ∧ KeepBut w w' g none := by
 have hu26 := Try.underlying26
 have hu73 := Try.underlying73
 have HI0 := Aside0.mk hI
 have HK := Aside0.mk (KeepBut.refl w g none)
 have HL := Aside0.mk hB.size
 clear hI
 have HW0 := Aside0.mk hB.size
 have HB := Aside0.mk hB
 clear hB
 unfold spec_l13AnyBook.f at h; have H := h; clear h
 replace H := Option.bind_eq_some_iff.mp H
 obtain ⟨⟨t234, t237, t240⟩, A20, H⟩ := H; try dsimp only at H
 have A2 := Aside0.mk A20
 clear A20
 replace H := Option.bind_eq_some_iff.mp H
 obtain ⟨⟨t242, t243⟩, A30, H⟩ := H; try dsimp only at H
 have A3 := Aside0.mk A30
 clear A30
 replace H := itcc_ H; rcases H with ⟨c4, H⟩ | ⟨c4, H⟩
 · have c4b0 : (t242 == 0) = true := beq_iff_eq.mpr c4
   have c4b1 : (t242 != 0) = false := bne_eq_false_iff_eq.mpr c4
   clear c4
   replace H := Option.bind_eq_some_iff.mp H
   obtain ⟨⟨t244, t245, t246, t247, t248, t249⟩, A50, H⟩ := H; try dsimp only at H
   have A5 := Aside0.mk A50
   clear A50
   replace H := inc_ H; obtain ⟨c6, H⟩ := H
   have LMc6 := Aside0.mk c6
   clear c6
   obtain ⟨y250, hy_⟩ : ∃ y_ : List (S68), y_ = (t234 ++ [(⟨t244, t245, t246, t247, t248⟩ : S68)]) := ⟨_, rfl⟩
   replace H : (some (y250, t237, t249)) = some (r1, r2, r3) := ry_
   have Ny250 := Aside0.mk hy_; clear hy_
   simp only [Option.some.injEq, Prod.mk.injEq] at H
   obtain ⟨rfl, rfl, rfl⟩ := H
   go_enter Try.func18, Try.ntmps18
   try go_wp2_with (first | ((with_reducible refine gate_dst (N := 2) rfl ?_); refine be_ 2 26 #[.slice none 0 0, .slice none 0 0] ?_; intro gb233 hg w7 hbox hb; replace HB := Aside0.mk (below_step bs_ hb); have BK233 := Aside0.mk (hbox); have GW233 := Aside0.mk ((gk_ hg : w.heap.size ≤ gb233)); have GE233 := Aside0.mk ((Nat.le_trans HW0.out (gk_ hg : w.heap.size ≤ gb233) : w0.heap.size ≤ gb233)); replace HK := Aside0.mk (KeepBut.trans kp_ (KeepBut.of_below hb g none) (.inl rfl)); have NB0_233 := Aside0.mk ((by rw [hg]; exact Nat.ne_of_lt (IsS66.lt (show IsS66 w0 _ g s0_0 s0_1 from is66_)) : g ≠ gb233)); have NB233_0 := Aside0.mk ((by rw [hg]; exact Nat.ne_of_gt (IsS66.lt (show IsS66 w0 _ g s0_0 s0_1 from is66_)) : gb233 ≠ g)); replace HI0 := Aside0.mk (IsS66.below is66_ hb); clear hb hbox hg) | ((with_reducible refine gate_callee (f := 39) rfl ?_); refine gl_ 5 Try.func39 #[.pointer (some ⟨g, 0, none⟩)] ?_; (with_reducible refine (spec_l13Book.calls k g s0_0 s0_1 t234 t237 t240 w0 _ ?side1 ?side2 A2.out).mono ?_); (case side1 => exact is66_); (case side2 => exact bs_); rintro e w8 ⟨v235, v238, rfl, ho0, ho1, hi, hb, hk⟩; refine ⟨_, rfl, ?_⟩; replace BK233 := Aside0.mk (KeepBut.blk hk (g' := gb233) (o := .cells #[.slice none 0 0, .slice none 0 0] 26 (0, 0)) (bk_ BK233) NB233_0.out (by simp)); have HO236 := Aside0.mk (Kd.R_lower ho0 ks_); have HO239 := Aside0.mk (Kd.R_lower ho1 ks_); replace HK := Aside0.mk (KeepBut.trans kp_ hk (.inl rfl)); replace HB := Aside0.mk (hb); replace HI0 := Aside0.mk (hi); (try clear hb); (try clear hb2); (try clear hk); (try clear hi); (try clear ho0); (try clear ho1)) | ((with_reducible refine gate_dst (N := 3) rfl ?_); refine be_ 3 26 #[.slice none 0 0, .slice none 0 0] ?_; intro gb241 hg w9 hbox hb; replace HO236 := Aside0.mk (Kd.R_below (kR_ HO236) hb); replace HO239 := Aside0.mk (Kd.R_below (kR_ HO239) hb); replace HB := Aside0.mk (below_step bs_ hb); have BK241 := Aside0.mk (hbox); have GW241 := Aside0.mk ((gk_ hg : w.heap.size ≤ gb241)); have GE241 := Aside0.mk ((Nat.le_trans HW0.out (gk_ hg : w.heap.size ≤ gb241) : w0.heap.size ≤ gb241)); replace HK := Aside0.mk (KeepBut.trans kp_ (KeepBut.of_below hb g none) (.inl rfl)); have NB233_241 := Aside0.mk ((by rw [hg]; exact Nat.ne_of_lt (blk_lt (bk_ BK233)) : gb233 ≠ gb241)); have NB241_233 := Aside0.mk ((by rw [hg]; exact Nat.ne_of_gt (blk_lt (bk_ BK233)) : gb241 ≠ gb233)); replace BK233 := Aside0.mk (blk_below (bk_ BK233) hb); have NB0_241 := Aside0.mk ((by rw [hg]; exact Nat.ne_of_lt (IsS66.lt (show IsS66 w0 _ g s0_0 t240 from is66_)) : g ≠ gb241)); have NB241_0 := Aside0.mk ((by rw [hg]; exact Nat.ne_of_gt (IsS66.lt (show IsS66 w0 _ g s0_0 t240 from is66_)) : gb241 ≠ g)); replace HI0 := Aside0.mk (IsS66.below is66_ hb); clear hb hbox hg; obtain ⟨Ao10, co10, eo10⟩ := Kd.R_slice HO236.out; subst eo10; have hnb11 := NB241_233.out; have hnc11 := NB233_241.out; have hnb12 := NB241_0.out; have hnc12 := NB0_241.out; have hcz13_0 := bc0_ BK241; have hcz13_1 := bc1_ BK241; have hfz13_0 := blk_frozen BK241.out 0; have hfz13_1 := blk_frozen BK241.out 1; obtain ⟨Ao14, co14, eo14⟩ := Kd.R_slice HO239.out; subst eo14) | ((with_reducible refine gate_callee (f := 20) rfl ?_); refine gl_ 7 Try.func20 #[.pointer (some ⟨g, 0, none⟩), .int .i64 16] ?_; (with_reducible refine (spec_l1Rd_pick.calls k g s0_0 t240 16 t242 t243 w0 _ ?side1 ?side2 A3.out).mono ?_); (case side1 => exact is66_); (case side2 => exact bs_); rintro e w15 ⟨rfl, hi, hb, hk⟩; refine ⟨_, rfl, ?_⟩; replace BK233 := Aside0.mk (KeepBut.blk hk (g' := gb233) (o := .cells #[.slice none 0 0, .slice none 0 0] 26 (0, 0)) bq_ NB233_0.out (by simp)); replace HO236 := Aside0.mk (Kd.R_mono (Kd.R_keep (IsS66.apart (show IsS66 w0 _ g s0_0 t240 from is66_) (by (with_reducible repeat (first | apply Kd.R_alloc | apply Kd.R_drewN | apply Kd.R_drew)); exact (Kd.R_mono (Kd.R_far (p := ⟨gb241, 1, none⟩) (Kd.R_far (p := ⟨gb241, 0, none⟩) (Kd.R_types HO236.out BK241.out (by decide)) (fun _ hk => hk.2) (.slice Ao10 t234.length co10)) (fun _ hk => hk.2) (.slice Ao14 t237.length co14)) (fun _ h_ => h_.1))) (by decide)) hk (fun _ h => h.2)) (fun _ h => h.1)); replace HO239 := Aside0.mk (Kd.R_mono (Kd.R_keep (IsS66.apart (show IsS66 w0 _ g s0_0 t240 from is66_) (by (with_reducible repeat (first | apply Kd.R_alloc | apply Kd.R_drewN | apply Kd.R_drew)); exact (Kd.R_mono (Kd.R_far (p := ⟨gb241, 1, none⟩) (Kd.R_far (p := ⟨gb241, 0, none⟩) (Kd.R_types HO239.out BK241.out (by decide)) (fun _ hk => hk.2) (.slice Ao10 t234.length co10)) (fun _ hk => hk.2) (.slice Ao14 t237.length co14)) (fun _ h_ => h_.1))) (by decide)) hk (fun _ h => h.2)) (fun _ h => h.1)); replace BK241 := Aside0.mk (KeepBut.blk hk (g' := gb241) (o := .cells #[.slice Ao10 t234.length co10, .slice Ao14 t237.length co14] 26 (0, 0)) bq_ NB241_0.out (by simp)); replace HK := Aside0.mk (KeepBut.trans kp_ hk (.inl rfl)); replace HB := Aside0.mk (hb); replace HI0 := Aside0.mk (hi); (try clear hb); (try clear hb2); (try clear hk); (try clear hi)))
   replace HO236 := Aside0.mk (Kd.R_drew HO236.out)
   replace HO239 := Aside0.mk (Kd.R_drew HO239.out)
   replace BK233 := Aside0.mk (blk_drew BK233.out)
   replace BK241 := Aside0.mk (blk_drew BK241.out)
   replace HI0 := Aside0.mk (IsS66.drew HI0.out)
   replace HK := Aside0.mk (keep_drew HK.out)
   replace HB := Aside0.mk (below_drew1 HB.out)
   refine start_ (n := 8) (S := fun w' => w'.cell? ⟨gb241, 0, none⟩ = some (.slice Ao10 t234.length co10) ∧ w'.cell? ⟨gb241, 1, none⟩ = some (.slice Ao14 t237.length co14)) (ds := [7]) (bm 8 0) (by kernel_rfl) rfl rfl ⟨(blk_cell BK241.out 0).trans rfl, (blk_cell BK241.out 1).trans rfl⟩ (fun hHeld => ?_); refine with_tabW spec_l13AnyBook.tab4 spec_l13AnyBook.bits4 (fun HT_ HW_ => ?_)
   generalize w15.drew = w16 at HO236 HO239 BK233 BK241 HI0 HK HB hHeld ⊢
   refine sp_ 0 (some 10) (bm 8 1) HT_ (h := ?_)
   refine sp_ 2 (some 12) (bm 8 5) HT_ (h := ?_)
   refine sr_ 1 (some 11) (bm 8 7) HT_ HW_ hHeld (h := ?_)
   refine sn_ 3 (some 13) (bm 8 15) HT_ (fun K hK => ?_)
   refine goes_ Try.func40 (by kernel_rfl) rfl #[.pointer (some ⟨g, 0, none⟩)] (by rfl) rfl rfl (by (try simp only [List.map_toArray, List.map_cons, List.map_nil]); first | done | rfl | (simp only [List.length_drop, List.length_take]; rfl)) ?_
   with_reducible refine (spec_l13AnyAffix.calls k g s0_0 t243 t244 t245 t246 t247 t248 t249 w0 _ ?side1 ?side2 A5.out).mono ?_
   (case side1 => exact is66_)
   (case side2 => exact bs_)
   rintro e w17 ⟨rfl, hi, hb, hk⟩
   refine ⟨_, rfl, ?_⟩
   replace BK233 := Aside0.mk (KeepBut.blk hk (g' := gb233) (o := .cells #[.slice none 0 0, .slice none 0 0] 26 (0, 0)) (bk_ BK233) NB233_0.out (by simp))
   replace HO236 := Aside0.mk (kaR66_ (kR_ HO236) hk)
   replace HO239 := Aside0.mk (kaR66_ (kR_ HO239) hk)
   replace BK241 := Aside0.mk (KeepBut.blk hk (g' := gb241) (o := .cells #[.slice Ao10 t234.length co10, .slice Ao14 t237.length co14] 26 (0, 0)) (bk_ BK241) NB241_0.out (by simp))
   replace HK := Aside0.mk (KeepBut.trans kp_ hk (.inl rfl))
   replace HB := Aside0.mk (hb)
   replace HI0 := Aside0.mk (hi)
   (try clear hb)
   (try clear hb2)
   (try clear hk)
   (try clear hi)
   refine hK.out _ _ ⟨(blk_cell BK241.out 0).trans rfl, (blk_cell BK241.out 1).trans rfl⟩ (fun hHeld => ?_)
   clear hK K
   refine nm_ ?_
   refine sn_ 4 (some 14) (bm 8 31) HT_ (fun K hK => ?_)
   refine vl_ ?_
   refine hK.out _ _ ⟨(blk_cell (blk_alloc BK241.out _) 0).trans rfl, (blk_cell (blk_alloc BK241.out _) 1).trans rfl⟩ (fun hHeld => ?_)
   clear hK K
   refine nm_ ?_
   refine sn_ 5 (some 15) (bm 8 63) HT_ (fun K hK => ?_)
   refine Kd.R_append_step k68 w.heap.size (by rfl) (.tmp 11) (.tmp 14) 23 68 (.agg #[(.string ⟨#[]⟩), (.bool false), (.string ⟨#[]⟩), (.string ⟨#[]⟩), (.string ⟨#[]⟩)]) 72 rfl Try.underlying23 info68 rfl (by decide) (by omega) (.slice Ao10 t234.length co10) t234 (⟨t244, t245, t246, t247, t248⟩ : S68) [.string t244, .bool t245, .string t246, .string t247, .string t248] (fun _ => True) (fun _ => False) rfl rfl ?aP (fun _ hk => hk.elim) ?aF ?aO (Below.refl _ _) ?aS ?aL ?_
   (case aP => exact k68_mkM _ _ _ (⟨t244, t245, t246, t247, t248⟩ : S68))
   (case aF => exact (fun _ _ => trivial))
   (case aO => exact (kR_ HO236))
   (case aS => exact ks_)
   (case aL => have := LMc6.out; omega)
   intro v251 w18 ho hb hg hat
   rw [← Ny250.out] at ho
   replace BK233 := Aside0.mk (blk_grown (bk_ BK233) hg (Kd.R_ne HO236.out BK233.out (by decide)))
   replace HO239 := Aside0.mk (Kd.R_over' (kR_ HO239) (Kd.R_typed (kR_ HO236)) (by decide) hg)
   replace BK241 := Aside0.mk (blk_grown (bk_ BK241) hg (Kd.R_ne HO236.out BK241.out (by decide)))
   replace HB := Aside0.mk (below_weaken bs_ HL.out hb)
   replace HI0 := Aside0.mk (IsS66.grown is66_ hg (IsS66.own_ne HI0.out HO236.out (by decide)))
   replace HK := Aside0.mk (KeepBut.trans kp_ (KeepBut.of_grown hg g) (Kd.R_base2 HO236.out))
   have HO252 := Aside0.mk (ho)
   clear HO236
   clear ho hb hg hat
   obtain ⟨Ao19, co19, eo19⟩ := Kd.R_slice HO252.out
   (first | subst eo19 | (injection eo19 with f1_ f2_ f3_; have f4_ := f1_.symm; have f5_ := f3_.symm; clear f1_ f2_ f3_; subst f4_; subst f5_))
   refine hK.out _ _ ⟨(blk_cell BK241.out 0).trans rfl, (blk_cell BK241.out 1).trans rfl⟩ (fun hHeld => ?_)
   clear hK K
   refine nm_ ?_
   refine sp_ 6 (some 16) (bm 8 127) HT_ (h := ?_)
   refine la_ 7 none (bm 8 255) HT_ (fun K hK => ?_)
   have hs20 : w18.cell? ⟨gb241, 0, none⟩ = some (.slice Ao10 t234.length co10) := (blk_cell BK241.out 0).trans rfl
   have hfs20 := blk_frozen BK241.out 0
   have hns20_0 := NB233_241.out
   have hms20_0 := NB241_233.out
   refine skip_ (w1 := ?_) (by rfl) rfl ?_ ?_
   rotate_left
   · go_simp
     rfl
   refine hK.out _ _ ?_
   clear hK K
   refine done_ (done_of HT_.out (by kernel_rfl)) ?_
   have hcz21_0 := bc0_ BK241
   have hcz21_1 := bc1_ BK241
   have hfz21_0 := blk_frozen BK241.out 0
   have hfz21_1 := blk_frozen BK241.out 1
   have hnb22 := NB233_0.out
   have hnc22 := NB0_233.out
   have hcz23_0 := bc0_ BK233
   have hcz23_1 := bc1_ BK233
   have hfz23_0 := blk_frozen BK233.out 0
   have hfz23_1 := blk_frozen BK233.out 1
   try go_wp2
   refine bodyPost_ret (results_cell_row rfl _ _ gb233 26 #[.slice Ao19 y250.length co19, .slice Ao14 t237.length co14] (0, 0) _ rfl bq_ Try.underlying26 rfl (by kernel_rfl)) rfl ?_
   exact ⟨_, _, rfe_, by (with_reducible repeat (first | apply Kd.R_alloc | apply Kd.R_drewN | apply Kd.R_drew)); exact Kd.R_mono (Kd.R_far (p := ⟨gb233, 1, none⟩) (Kd.R_far (p := ⟨gb233, 0, none⟩) (Kd.R_far (p := ⟨gb241, 0, none⟩) (Kd.R_types (Kd.R_types HO252.out BK241.out (by decide)) BK233.out (by decide)) (fun _ hk => hk.1.2) (.slice Ao19 y250.length co19)) (fun _ hk => hk.2) (.slice Ao19 y250.length co19)) (fun _ hk => hk.2) (.slice Ao14 t237.length co14)) (fun _ hk => trivial), by (with_reducible repeat (first | apply Kd.R_alloc | apply Kd.R_drewN | apply Kd.R_drew)); exact Kd.R_mono (Kd.R_far (p := ⟨gb233, 1, none⟩) (Kd.R_far (p := ⟨gb233, 0, none⟩) (Kd.R_far (p := ⟨gb241, 0, none⟩) (Kd.R_types (Kd.R_types HO239.out BK241.out (by decide)) BK233.out (by decide)) (fun _ hk => hk.1.2) (.slice Ao19 y250.length co19)) (fun _ hk => hk.2) (.slice Ao19 y250.length co19)) (fun _ hk => hk.2) (.slice Ao14 t237.length co14)) (fun _ hk => trivial), is66_, bs_, kp_⟩
 have c4b0 : (t242 == 0) = false := beq_eq_false_iff_ne.mpr c4
 have c4b1 : (t242 != 0) = true := bne_iff_ne.mpr c4
 replace H := itcc_ H; rcases H with ⟨c24, H⟩ | ⟨c24, H⟩
 · have c24b0 : (t242 == 1) = true := beq_iff_eq.mpr c24
   have c24b1 : (t242 != 1) = false := bne_eq_false_iff_eq.mpr c24
   clear c24
   replace H := Option.bind_eq_some_iff.mp H
   obtain ⟨⟨t253, t254⟩, A250, H⟩ := H; try dsimp only at H
   have A25 := Aside0.mk A250
   clear A250
   obtain ⟨y255, hy_⟩ : ∃ y_ : List ByteArray, y_ = (([(⟨#[]⟩ : ByteArray), (⟨#[83, 71]⟩ : ByteArray), (⟨#[115]⟩ : ByteArray), (⟨#[65, 66, 67, 68, 69]⟩ : ByteArray)] : List ByteArray)) := ⟨_, rfl⟩
   replace H : ((spec_l1Rd_of.f k s0_0 t254 y255).bind fun bt258 => (if t237.length < 4398046511104 then (some (t234, (t237 ++ [(⟨t253, bt258.1⟩ : S73)]), bt258.2)) else (none))) = some (r1, r2, r3) := ry_
   have Ny255 := Aside0.mk hy_; clear hy_
   replace H := Option.bind_eq_some_iff.mp H
   obtain ⟨⟨t258, t259⟩, A260, H⟩ := H; try dsimp only at H
   have A26 := Aside0.mk A260
   clear A260
   replace H := inc_ H; obtain ⟨c27, H⟩ := H
   have LMc27 := Aside0.mk c27
   clear c27
   obtain ⟨y260, hy_⟩ : ∃ y_ : List (S73), y_ = (t237 ++ [(⟨t253, t258⟩ : S73)]) := ⟨_, rfl⟩
   replace H : (some (t234, y260, t259)) = some (r1, r2, r3) := ry_
   have Ny260 := Aside0.mk hy_; clear hy_
   simp only [Option.some.injEq, Prod.mk.injEq] at H
   obtain ⟨rfl, rfl, rfl⟩ := H
   go_enter Try.func18, Try.ntmps18
   try go_wp2_with (first | ((with_reducible refine gate_dst (N := 2) rfl ?_); refine be_ 2 26 #[.slice none 0 0, .slice none 0 0] ?_; intro gb233 hg w28 hbox hb; replace HB := Aside0.mk (below_step bs_ hb); have BK233 := Aside0.mk (hbox); have GW233 := Aside0.mk ((gk_ hg : w.heap.size ≤ gb233)); have GE233 := Aside0.mk ((Nat.le_trans HW0.out (gk_ hg : w.heap.size ≤ gb233) : w0.heap.size ≤ gb233)); replace HK := Aside0.mk (KeepBut.trans kp_ (KeepBut.of_below hb g none) (.inl rfl)); have NB0_233 := Aside0.mk ((by rw [hg]; exact Nat.ne_of_lt (IsS66.lt (show IsS66 w0 _ g s0_0 s0_1 from is66_)) : g ≠ gb233)); have NB233_0 := Aside0.mk ((by rw [hg]; exact Nat.ne_of_gt (IsS66.lt (show IsS66 w0 _ g s0_0 s0_1 from is66_)) : gb233 ≠ g)); replace HI0 := Aside0.mk (IsS66.below is66_ hb); clear hb hbox hg) | ((with_reducible refine gate_callee (f := 39) rfl ?_); refine gl_ 5 Try.func39 #[.pointer (some ⟨g, 0, none⟩)] ?_; (with_reducible refine (spec_l13Book.calls k g s0_0 s0_1 t234 t237 t240 w0 _ ?side1 ?side2 A2.out).mono ?_); (case side1 => exact is66_); (case side2 => exact bs_); rintro e w29 ⟨v235, v238, rfl, ho0, ho1, hi, hb, hk⟩; refine ⟨_, rfl, ?_⟩; replace BK233 := Aside0.mk (KeepBut.blk hk (g' := gb233) (o := .cells #[.slice none 0 0, .slice none 0 0] 26 (0, 0)) (bk_ BK233) NB233_0.out (by simp)); have HO236 := Aside0.mk (Kd.R_lower ho0 ks_); have HO239 := Aside0.mk (Kd.R_lower ho1 ks_); replace HK := Aside0.mk (KeepBut.trans kp_ hk (.inl rfl)); replace HB := Aside0.mk (hb); replace HI0 := Aside0.mk (hi); (try clear hb); (try clear hb2); (try clear hk); (try clear hi); (try clear ho0); (try clear ho1)) | ((with_reducible refine gate_dst (N := 3) rfl ?_); refine be_ 3 26 #[.slice none 0 0, .slice none 0 0] ?_; intro gb241 hg w30 hbox hb; replace HO236 := Aside0.mk (Kd.R_below (kR_ HO236) hb); replace HO239 := Aside0.mk (Kd.R_below (kR_ HO239) hb); replace HB := Aside0.mk (below_step bs_ hb); have BK241 := Aside0.mk (hbox); have GW241 := Aside0.mk ((gk_ hg : w.heap.size ≤ gb241)); have GE241 := Aside0.mk ((Nat.le_trans HW0.out (gk_ hg : w.heap.size ≤ gb241) : w0.heap.size ≤ gb241)); replace HK := Aside0.mk (KeepBut.trans kp_ (KeepBut.of_below hb g none) (.inl rfl)); have NB233_241 := Aside0.mk ((by rw [hg]; exact Nat.ne_of_lt (blk_lt (bk_ BK233)) : gb233 ≠ gb241)); have NB241_233 := Aside0.mk ((by rw [hg]; exact Nat.ne_of_gt (blk_lt (bk_ BK233)) : gb241 ≠ gb233)); replace BK233 := Aside0.mk (blk_below (bk_ BK233) hb); have NB0_241 := Aside0.mk ((by rw [hg]; exact Nat.ne_of_lt (IsS66.lt (show IsS66 w0 _ g s0_0 t240 from is66_)) : g ≠ gb241)); have NB241_0 := Aside0.mk ((by rw [hg]; exact Nat.ne_of_gt (IsS66.lt (show IsS66 w0 _ g s0_0 t240 from is66_)) : gb241 ≠ g)); replace HI0 := Aside0.mk (IsS66.below is66_ hb); clear hb hbox hg; obtain ⟨Ao31, co31, eo31⟩ := Kd.R_slice HO236.out; subst eo31; have hnb32 := NB241_233.out; have hnc32 := NB233_241.out; have hnb33 := NB241_0.out; have hnc33 := NB0_241.out; have hcz34_0 := bc0_ BK241; have hcz34_1 := bc1_ BK241; have hfz34_0 := blk_frozen BK241.out 0; have hfz34_1 := blk_frozen BK241.out 1; obtain ⟨Ao35, co35, eo35⟩ := Kd.R_slice HO239.out; subst eo35) | ((with_reducible refine gate_callee (f := 20) rfl ?_); refine gl_ 7 Try.func20 #[.pointer (some ⟨g, 0, none⟩), .int .i64 16] ?_; (with_reducible refine (spec_l1Rd_pick.calls k g s0_0 t240 16 t242 t243 w0 _ ?side1 ?side2 A3.out).mono ?_); (case side1 => exact is66_); (case side2 => exact bs_); rintro e w36 ⟨rfl, hi, hb, hk⟩; refine ⟨_, rfl, ?_⟩; replace BK233 := Aside0.mk (KeepBut.blk hk (g' := gb233) (o := .cells #[.slice none 0 0, .slice none 0 0] 26 (0, 0)) bq_ NB233_0.out (by simp)); replace HO236 := Aside0.mk (Kd.R_mono (Kd.R_keep (IsS66.apart (show IsS66 w0 _ g s0_0 t240 from is66_) (by (with_reducible repeat (first | apply Kd.R_alloc | apply Kd.R_drewN | apply Kd.R_drew)); exact (Kd.R_mono (Kd.R_far (p := ⟨gb241, 1, none⟩) (Kd.R_far (p := ⟨gb241, 0, none⟩) (Kd.R_types HO236.out BK241.out (by decide)) (fun _ hk => hk.2) (.slice Ao31 t234.length co31)) (fun _ hk => hk.2) (.slice Ao35 t237.length co35)) (fun _ h_ => h_.1))) (by decide)) hk (fun _ h => h.2)) (fun _ h => h.1)); replace HO239 := Aside0.mk (Kd.R_mono (Kd.R_keep (IsS66.apart (show IsS66 w0 _ g s0_0 t240 from is66_) (by (with_reducible repeat (first | apply Kd.R_alloc | apply Kd.R_drewN | apply Kd.R_drew)); exact (Kd.R_mono (Kd.R_far (p := ⟨gb241, 1, none⟩) (Kd.R_far (p := ⟨gb241, 0, none⟩) (Kd.R_types HO239.out BK241.out (by decide)) (fun _ hk => hk.2) (.slice Ao31 t234.length co31)) (fun _ hk => hk.2) (.slice Ao35 t237.length co35)) (fun _ h_ => h_.1))) (by decide)) hk (fun _ h => h.2)) (fun _ h => h.1)); replace BK241 := Aside0.mk (KeepBut.blk hk (g' := gb241) (o := .cells #[.slice Ao31 t234.length co31, .slice Ao35 t237.length co35] 26 (0, 0)) bq_ NB241_0.out (by simp)); replace HK := Aside0.mk (KeepBut.trans kp_ hk (.inl rfl)); replace HB := Aside0.mk (hb); replace HI0 := Aside0.mk (hi); (try clear hb); (try clear hb2); (try clear hk); (try clear hi)))
   replace HO236 := Aside0.mk (Kd.R_drew HO236.out)
   replace HO239 := Aside0.mk (Kd.R_drew HO239.out)
   replace BK233 := Aside0.mk (blk_drew BK233.out)
   replace BK241 := Aside0.mk (blk_drew BK241.out)
   replace HI0 := Aside0.mk (IsS66.drew HI0.out)
   replace HK := Aside0.mk (keep_drew HK.out)
   replace HB := Aside0.mk (below_drew1 HB.out)
   refine start_ (n := 12) (S := fun w' => w'.cell? ⟨gb241, 0, none⟩ = some (.slice Ao31 t234.length co31) ∧ w'.cell? ⟨gb241, 1, none⟩ = some (.slice Ao35 t237.length co35)) (ds := [11]) (bm 12 0) (by kernel_rfl) rfl rfl ⟨(blk_cell BK241.out 0).trans rfl, (blk_cell BK241.out 1).trans rfl⟩ (fun hHeld => ?_); refine with_tabW spec_l13AnyBook.tab6 spec_l13AnyBook.bits6 (fun HT_ HW_ => ?_)
   generalize w36.drew = w37 at HO236 HO239 BK233 BK241 HI0 HK HB hHeld ⊢
   refine sp_ 0 (some 19) (bm 12 1) HT_ (h := ?_)
   refine sp_ 2 (some 21) (bm 12 5) HT_ (h := ?_)
   refine sp_ 4 (some 23) (bm 12 21) HT_ (h := ?_)
   refine sr_ 1 (some 20) (bm 12 23) HT_ HW_ hHeld (h := ?_)
   refine join_ (σ := Value) 6 (bm 12 63) (fun s_ => [(22, .string t253), (24, s_)]) (fun s_ w' => (w'.cell? ⟨gb241, 0, none⟩ = some (.slice Ao31 t234.length co31) ∧ w'.cell? ⟨gb241, 1, none⟩ = some (.slice Ao35 t237.length co35)) ∧ (Kd.R k68 68 w' w.heap.size (fun _ => True) (.slice Ao31 t234.length co31) t234) ∧ (Kd.R k73 73 w' w.heap.size (fun _ => True) (.slice Ao35 t237.length co35) t237) ∧ (Kd.R Kd.string 9 w' w.heap.size (fun _ => True) s_ y255) ∧ (w'.heap[gb233]? = some (.cells #[.slice none 0 0, .slice none 0 0] 26 (0, 0))) ∧ (w'.heap[gb241]? = some (.cells #[.slice Ao31 t234.length co31, .slice Ao35 t237.length co35] 26 (0, 0))) ∧ (IsS66 w0 w' g s0_0 t254) ∧ (KeepBut w w' g none) ∧ (Below w0.heap.size w0 w')) ?_ ?_
   rotate_left
   · intro hCont
     refine two_ (i := 3) (j := 5) (Ni := some 22) (Nj := some 24) (bm 12 31) (bm 12 55) rfl rfl rfl rfl (two_of HT_.out (by kernel_rfl)) (by decide) (by decide) (fun K hK => ?_) (fun K hK => ?_)
     · skip
       refine goes_ Try.func41 (by kernel_rfl) rfl #[.pointer (some ⟨g, 0, none⟩)] (by rfl) rfl rfl (by (try simp only [List.map_toArray, List.map_cons, List.map_nil]); first | done | rfl | (simp only [List.length_drop, List.length_take]; rfl)) ?_
       with_reducible refine (spec_l13AnyWord.calls k g s0_0 t243 t253 t254 w0 _ ?side1 ?side2 A25.out).mono ?_
       (case side1 => exact is66_)
       (case side2 => exact bs_)
       rintro e w38 ⟨rfl, hi, hb, hk⟩
       refine ⟨_, rfl, ?_⟩
       replace BK233 := Aside0.mk (KeepBut.blk hk (g' := gb233) (o := .cells #[.slice none 0 0, .slice none 0 0] 26 (0, 0)) (bk_ BK233) NB233_0.out (by simp))
       replace HO236 := Aside0.mk (kaR66_ (kR_ HO236) hk)
       replace HO239 := Aside0.mk (kaR66_ (kR_ HO239) hk)
       replace BK241 := Aside0.mk (KeepBut.blk hk (g' := gb241) (o := .cells #[.slice Ao31 t234.length co31, .slice Ao35 t237.length co35] 26 (0, 0)) (bk_ BK241) NB241_0.out (by simp))
       replace HK := Aside0.mk (KeepBut.trans kp_ hk (.inl rfl))
       replace HB := Aside0.mk (hb)
       replace HI0 := Aside0.mk (hi)
       (try clear hb)
       (try clear hb2)
       (try clear hk)
       (try clear hi)
       refine hK.out _ _ ⟨(blk_cell BK241.out 0).trans rfl, (blk_cell BK241.out 1).trans rfl⟩ (fun hHeld => ?_)
       clear hK K
       refine nm_ ?_
       refine sn_ 5 (some 24) (bm 12 63) HT_ (fun K hK => ?_)
       refine Kd.R_lit_step Kd.string _ 9 ?hg (N := 24) ?hd (xs := ([(⟨#[]⟩ : ByteArray), (⟨#[83, 71]⟩ : ByteArray), (⟨#[115]⟩ : ByteArray), (⟨#[65, 66, 67, 68, 69]⟩ : ByteArray)] : List ByteArray)) (inner := [.string (⟨#[]⟩ : ByteArray), .string (⟨#[83, 71]⟩ : ByteArray), .string (⟨#[115]⟩ : ByteArray), .string (⟨#[65, 66, 67, 68, 69]⟩ : ByteArray)]) (ok := fun _ => True) (okp := fun _ => True) ?hr ?hp (fun _ hk => hk) trivial (Below.refl _ _) (Nat.le_refl _) (by simp) ?_; (case hd => rfl); (case hg => rfl); (case hr => first | (go_simp; done) | (go_simp; rfl)); (case hp => exact (Reps.one (show Kd.M Kd.string _ _ _ (⟨#[]⟩ : ByteArray) [.string (⟨#[]⟩ : ByteArray)] from rfl) (Reps.one (show Kd.M Kd.string _ _ _ (⟨#[83, 71]⟩ : ByteArray) [.string (⟨#[83, 71]⟩ : ByteArray)] from rfl) (Reps.one (show Kd.M Kd.string _ _ _ (⟨#[115]⟩ : ByteArray) [.string (⟨#[115]⟩ : ByteArray)] from rfl) (Reps.one (show Kd.M Kd.string _ _ _ (⟨#[65, 66, 67, 68, 69]⟩ : ByteArray) [.string (⟨#[65, 66, 67, 68, 69]⟩ : ByteArray)] from rfl) (Reps.none _ _))))))
       intro v256 w39 ho40 hb hg_ hnew_
       clear hg_ hnew_
       (first | rw [← Ny255.out] at ho40 | (simp only [Int.reduceToNat] at ho40; rw [← Ny255.out] at ho40))
       replace HO236 := Aside0.mk (Kd.R_below (kR_ HO236) hb)
       replace HO239 := Aside0.mk (Kd.R_below (kR_ HO239) hb)
       have HO257 := Aside0.mk (Kd.R_lower ho40 ks_)
       replace BK233 := Aside0.mk (blk_below (bk_ BK233) hb)
       replace BK241 := Aside0.mk (blk_below (bk_ BK241) hb)
       replace HK := Aside0.mk (KeepBut.trans kp_ (KeepBut.of_below hb g none) (.inl rfl))
       replace HB := Aside0.mk (below_step bs_ hb)
       replace HI0 := Aside0.mk (IsS66.below is66_ hb)
       clear hb ho40
       refine hK.out _ _ ⟨(blk_cell BK241.out 0).trans rfl, (blk_cell BK241.out 1).trans rfl⟩ (fun hHeld => ?_)
       clear hK K
       refine nm_ ?_
       exact norm_ (by simp only [putAll, Act.put, List.setIfInBounds_toArray, List.set_cons_zero, List.set_cons_succ]) (hCont (v256) _ ⟨hHeld, (kR_ HO236), (kR_ HO239), (kR_ HO257), (bk_ BK233), (bk_ BK241), is66_, kp_, bs_⟩)
     · skip
       refine Kd.R_lit_step Kd.string _ 9 ?hg (N := 24) ?hd (xs := ([(⟨#[]⟩ : ByteArray), (⟨#[83, 71]⟩ : ByteArray), (⟨#[115]⟩ : ByteArray), (⟨#[65, 66, 67, 68, 69]⟩ : ByteArray)] : List ByteArray)) (inner := [.string (⟨#[]⟩ : ByteArray), .string (⟨#[83, 71]⟩ : ByteArray), .string (⟨#[115]⟩ : ByteArray), .string (⟨#[65, 66, 67, 68, 69]⟩ : ByteArray)]) (ok := fun _ => True) (okp := fun _ => True) ?hr ?hp (fun _ hk => hk) trivial (Below.refl _ _) (Nat.le_refl _) (by simp) ?_; (case hd => rfl); (case hg => rfl); (case hr => first | (go_simp; done) | (go_simp; rfl)); (case hp => exact (Reps.one (show Kd.M Kd.string _ _ _ (⟨#[]⟩ : ByteArray) [.string (⟨#[]⟩ : ByteArray)] from rfl) (Reps.one (show Kd.M Kd.string _ _ _ (⟨#[83, 71]⟩ : ByteArray) [.string (⟨#[83, 71]⟩ : ByteArray)] from rfl) (Reps.one (show Kd.M Kd.string _ _ _ (⟨#[115]⟩ : ByteArray) [.string (⟨#[115]⟩ : ByteArray)] from rfl) (Reps.one (show Kd.M Kd.string _ _ _ (⟨#[65, 66, 67, 68, 69]⟩ : ByteArray) [.string (⟨#[65, 66, 67, 68, 69]⟩ : ByteArray)] from rfl) (Reps.none _ _))))))
       intro v256 w38 ho39 hb hg_ hnew_
       clear hg_ hnew_
       (first | rw [← Ny255.out] at ho39 | (simp only [Int.reduceToNat] at ho39; rw [← Ny255.out] at ho39))
       replace HO236 := Aside0.mk (Kd.R_below (kR_ HO236) hb)
       replace HO239 := Aside0.mk (Kd.R_below (kR_ HO239) hb)
       have HO257 := Aside0.mk (Kd.R_lower ho39 ks_)
       replace BK233 := Aside0.mk (blk_below (bk_ BK233) hb)
       replace BK241 := Aside0.mk (blk_below (bk_ BK241) hb)
       replace HK := Aside0.mk (KeepBut.trans kp_ (KeepBut.of_below hb g none) (.inl rfl))
       replace HB := Aside0.mk (below_step bs_ hb)
       replace HI0 := Aside0.mk (IsS66.below is66_ hb)
       clear hb ho39
       refine hK.out _ _ ⟨(blk_cell BK241.out 0).trans rfl, (blk_cell BK241.out 1).trans rfl⟩ (fun hHeld => ?_)
       clear hK K
       refine nm_ ?_
       refine sn_ 3 (some 22) (bm 12 63) HT_ (fun K hK => ?_)
       refine goes_ Try.func41 (by kernel_rfl) rfl #[.pointer (some ⟨g, 0, none⟩)] (by rfl) rfl rfl (by (try simp only [List.map_toArray, List.map_cons, List.map_nil]); first | done | rfl | (simp only [List.length_drop, List.length_take]; rfl)) ?_
       with_reducible refine (spec_l13AnyWord.calls k g s0_0 t243 t253 t254 w0 _ ?side1 ?side2 A25.out).mono ?_
       (case side1 => exact is66_)
       (case side2 => exact bs_)
       rintro e w40 ⟨rfl, hi, hb, hk⟩
       refine ⟨_, rfl, ?_⟩
       replace BK233 := Aside0.mk (KeepBut.blk hk (g' := gb233) (o := .cells #[.slice none 0 0, .slice none 0 0] 26 (0, 0)) (bk_ BK233) NB233_0.out (by simp))
       replace HO236 := Aside0.mk (kaR66_ (kR_ HO236) hk)
       replace HO239 := Aside0.mk (kaR66_ (kR_ HO239) hk)
       replace BK241 := Aside0.mk (KeepBut.blk hk (g' := gb241) (o := .cells #[.slice Ao31 t234.length co31, .slice Ao35 t237.length co35] 26 (0, 0)) (bk_ BK241) NB241_0.out (by simp))
       replace HO257 := Aside0.mk (kaR66_ (kR_ HO257) hk)
       replace HK := Aside0.mk (KeepBut.trans kp_ hk (.inl rfl))
       replace HB := Aside0.mk (hb)
       replace HI0 := Aside0.mk (hi)
       (try clear hb)
       (try clear hb2)
       (try clear hk)
       (try clear hi)
       refine hK.out _ _ ⟨(blk_cell BK241.out 0).trans rfl, (blk_cell BK241.out 1).trans rfl⟩ (fun hHeld => ?_)
       clear hK K
       refine nm_ ?_
       exact norm_ (by simp only [putAll, Act.put, List.setIfInBounds_toArray, List.set_cons_zero, List.set_cons_succ]) (hCont (v256) _ ⟨hHeld, (kR_ HO236), (kR_ HO239), (kR_ HO257), (bk_ BK233), (bk_ BK241), is66_, kp_, bs_⟩)
   rintro v256 w41 ⟨hS_, h0_, h1_, h2_, h3_, h4_, h5_, h6_, h7_⟩
   have n0_ : Aside0 (Kd.R k68 68 w41 w.heap.size (fun _ => True) (.slice Ao31 t234.length co31) t234) := ⟨h0_⟩
   have n1_ : Aside0 (Kd.R k73 73 w41 w.heap.size (fun _ => True) (.slice Ao35 t237.length co35) t237) := ⟨h1_⟩
   have n2_ : Aside0 (Kd.R Kd.string 9 w41 w.heap.size (fun _ => True) v256 y255) := ⟨h2_⟩
   have n3_ : Aside0 (w41.heap[gb233]? = some (.cells #[.slice none 0 0, .slice none 0 0] 26 (0, 0))) := ⟨h3_⟩
   have n4_ : Aside0 (w41.heap[gb241]? = some (.cells #[.slice Ao31 t234.length co31, .slice Ao35 t237.length co35] 26 (0, 0))) := ⟨h4_⟩
   have n5_ : Aside0 (IsS66 w0 w41 g s0_0 t254) := ⟨h5_⟩
   have n6_ : Aside0 (KeepBut w w41 g none) := ⟨h6_⟩
   have n7_ : Aside0 (Below w0.heap.size w0 w41) := ⟨h7_⟩
   clear HO236
   clear HO239
   clear BK233
   clear BK241
   clear HI0
   clear HK
   clear HB
   clear h0_ h1_ h2_ h3_ h4_ h5_ h6_ h7_
   have HO236 := n0_
   have HO239 := n1_
   have HO257 := n2_
   have BK233 := n3_
   have BK241 := n4_
   have HI0 := n5_
   have HK := n6_
   have HB := n7_
   clear n0_ n1_ n2_ n3_ n4_ n5_ n6_ n7_
   have hHeld : w41.cell? ⟨gb241, 0, none⟩ = some (.slice Ao31 t234.length co31) ∧ w41.cell? ⟨gb241, 1, none⟩ = some (.slice Ao35 t237.length co35) := hS_
   obtain ⟨Ao42, co42, eo42⟩ := Kd.R_slice HO257.out
   (first | subst eo42 | (injection eo42 with f1_ f2_ f3_; have f4_ := f1_.symm; have f5_ := f3_.symm; clear f1_ f2_ f3_; subst f4_; subst f5_))
   refine norm_ (a' := ?_) ?_ ?_
   rotate_left
   · simp only [putAll, Act.put, List.setIfInBounds_toArray, List.set_cons_zero, List.set_cons_succ]
     rfl
   refine sn_ 6 (some 25) (bm 12 127) HT_ (fun K hK => ?_)
   refine goes_ Try.func42 (by kernel_rfl) rfl #[.pointer (some ⟨g, 0, none⟩), .slice Ao42 y255.length co42] (by rfl) rfl rfl (by (try simp only [List.map_toArray, List.map_cons, List.map_nil]); first | done | rfl | (simp only [List.length_drop, List.length_take]; rfl)) ?_
   with_reducible refine (spec_l1Rd_of.calls k g s0_0 t254 _ _ y255 t258 t259 w0 _ ?side1 ?side2 ?side3 ?side4 ?side5 A26.out).mono ?_
   (case side1 => exact is66_)
   (case side2 => exact bs_)
   (case side3 => exact cr_ HO257)
   (case side4 => exact (Kd.R_reads' HO257.out).2.1)
   (case side5 => exact far_slice (IsS66.own_ne HI0.out HO257.out (by decide)))
   rintro e w43 ⟨rfl, hi, hb, hk⟩
   refine ⟨_, rfl, ?_⟩
   replace BK233 := Aside0.mk (KeepBut.blk hk (g' := gb233) (o := .cells #[.slice none 0 0, .slice none 0 0] 26 (0, 0)) (bk_ BK233) NB233_0.out (by simp))
   replace HO236 := Aside0.mk (kaR66_ (kR_ HO236) hk)
   replace HO239 := Aside0.mk (kaR66_ (kR_ HO239) hk)
   replace BK241 := Aside0.mk (KeepBut.blk hk (g' := gb241) (o := .cells #[.slice Ao31 t234.length co31, .slice Ao35 t237.length co35] 26 (0, 0)) (bk_ BK241) NB241_0.out (by simp))
   replace HO257 := Aside0.mk (kaR66_ (kR_ HO257) hk)
   replace HK := Aside0.mk (KeepBut.trans kp_ hk (.inl rfl))
   replace HB := Aside0.mk (hb)
   replace HI0 := Aside0.mk (hi)
   (try clear hb)
   (try clear hb2)
   (try clear hk)
   (try clear hi)
   refine hK.out _ _ ⟨(blk_cell BK241.out 0).trans rfl, (blk_cell BK241.out 1).trans rfl⟩ (fun hHeld => ?_)
   clear hK K
   refine nm_ ?_
   refine sp_ 7 (some 26) (bm 12 255) HT_ (h := ?_)
   refine sn_ 8 (some 27) (bm 12 511) HT_ (fun K hK => ?_)
   refine vl_ ?_
   refine hK.out _ _ ⟨(blk_cell (blk_alloc BK241.out _) 0).trans rfl, (blk_cell (blk_alloc BK241.out _) 1).trans rfl⟩ (fun hHeld => ?_)
   clear hK K
   refine nm_ ?_
   refine sn_ 9 (some 28) (bm 12 1023) HT_ (fun K hK => ?_)
   refine Kd.R_append_step k73 w.heap.size (by rfl) (.tmp 20) (.tmp 27) 24 73 (.agg #[(.string ⟨#[]⟩), (.string ⟨#[]⟩)]) 32 rfl Try.underlying24 info73 rfl (by decide) (by omega) (.slice Ao35 t237.length co35) t237 (⟨t253, t258⟩ : S73) [.string t253, .string t258] (fun _ => True) (fun _ => False) rfl rfl ?aP (fun _ hk => hk.elim) ?aF ?aO (Below.refl _ _) ?aS ?aL ?_
   (case aP => exact k73_mkM _ _ _ (⟨t253, t258⟩ : S73))
   (case aF => exact (fun _ _ => trivial))
   (case aO => exact (kR_ HO239))
   (case aS => exact ks_)
   (case aL => have := LMc27.out; omega)
   intro v261 w44 ho hb hg hat
   rw [← Ny260.out] at ho
   replace BK233 := Aside0.mk (blk_grown (bk_ BK233) hg (Kd.R_ne HO239.out BK233.out (by decide)))
   replace HO236 := Aside0.mk (Kd.R_over' (kR_ HO236) (Kd.R_typed (kR_ HO239)) (by decide) hg)
   replace BK241 := Aside0.mk (blk_grown (bk_ BK241) hg (Kd.R_ne HO239.out BK241.out (by decide)))
   replace HO257 := Aside0.mk (Kd.R_over' (kR_ HO257) (Kd.R_typed (kR_ HO239)) (by decide) hg)
   replace HB := Aside0.mk (below_weaken bs_ HL.out hb)
   replace HI0 := Aside0.mk (IsS66.grown is66_ hg (IsS66.own_ne HI0.out HO239.out (by decide)))
   replace HK := Aside0.mk (KeepBut.trans kp_ (KeepBut.of_grown hg g) (Kd.R_base2 HO239.out))
   have HO262 := Aside0.mk (ho)
   clear HO239
   clear ho hb hg hat
   obtain ⟨Ao45, co45, eo45⟩ := Kd.R_slice HO262.out
   (first | subst eo45 | (injection eo45 with f1_ f2_ f3_; have f4_ := f1_.symm; have f5_ := f3_.symm; clear f1_ f2_ f3_; subst f4_; subst f5_))
   refine hK.out _ _ ⟨(blk_cell BK241.out 0).trans rfl, (blk_cell BK241.out 1).trans rfl⟩ (fun hHeld => ?_)
   clear hK K
   refine nm_ ?_
   refine sp_ 10 (some 29) (bm 12 2047) HT_ (h := ?_)
   refine la_ 11 none (bm 12 4095) HT_ (fun K hK => ?_)
   have hs46 : w44.cell? ⟨gb241, 1, none⟩ = some (.slice Ao35 t237.length co35) := (blk_cell BK241.out 1).trans rfl
   have hfs46 := blk_frozen BK241.out 1
   have hns46_0 := NB233_241.out
   have hms46_0 := NB241_233.out
   refine skip_ (w1 := ?_) (by rfl) rfl ?_ ?_
   rotate_left
   · go_simp
     rfl
   refine hK.out _ _ ?_
   clear hK K
   refine done_ (done_of HT_.out (by kernel_rfl)) ?_
   have hcz47_0 := bc0_ BK241
   have hcz47_1 := bc1_ BK241
   have hfz47_0 := blk_frozen BK241.out 0
   have hfz47_1 := blk_frozen BK241.out 1
   have hnb48 := NB233_0.out
   have hnc48 := NB0_233.out
   have hcz49_0 := bc0_ BK233
   have hcz49_1 := bc1_ BK233
   have hfz49_0 := blk_frozen BK233.out 0
   have hfz49_1 := blk_frozen BK233.out 1
   try go_wp2
   refine bodyPost_ret (results_cell_row rfl _ _ gb233 26 #[.slice Ao31 t234.length co31, .slice Ao45 y260.length co45] (0, 0) _ rfl bq_ Try.underlying26 rfl (by kernel_rfl)) rfl ?_
   exact ⟨_, _, rfe_, by (with_reducible repeat (first | apply Kd.R_alloc | apply Kd.R_drewN | apply Kd.R_drew)); exact Kd.R_mono (Kd.R_far (p := ⟨gb233, 1, none⟩) (Kd.R_far (p := ⟨gb233, 0, none⟩) (Kd.R_far (p := ⟨gb241, 1, none⟩) (Kd.R_types (Kd.R_types HO236.out BK241.out (by decide)) BK233.out (by decide)) (fun _ hk => hk.1.2) (.slice Ao45 y260.length co45)) (fun _ hk => hk.2) (.slice Ao31 t234.length co31)) (fun _ hk => hk.2) (.slice Ao45 y260.length co45)) (fun _ hk => trivial), by (with_reducible repeat (first | apply Kd.R_alloc | apply Kd.R_drewN | apply Kd.R_drew)); exact Kd.R_mono (Kd.R_far (p := ⟨gb233, 1, none⟩) (Kd.R_far (p := ⟨gb233, 0, none⟩) (Kd.R_far (p := ⟨gb241, 1, none⟩) (Kd.R_types (Kd.R_types HO262.out BK241.out (by decide)) BK233.out (by decide)) (fun _ hk => hk.1.2) (.slice Ao45 y260.length co45)) (fun _ hk => hk.2) (.slice Ao31 t234.length co31)) (fun _ hk => hk.2) (.slice Ao45 y260.length co45)) (fun _ hk => trivial), is66_, bs_, kp_⟩
 have c24b0 : (t242 == 1) = false := beq_eq_false_iff_ne.mpr c24
 have c24b1 : (t242 != 1) = true := bne_iff_ne.mpr c24
 replace H := iucc_ H; rcases H with ⟨c50, H⟩ | ⟨c50, H⟩
 · have c50b0 : (t242 == 2) = false := beq_eq_false_iff_ne.mpr c50
   have c50b1 : (t242 != 2) = true := bne_iff_ne.mpr c50
   simp only [Option.some.injEq, Prod.mk.injEq] at H
   obtain ⟨rfl, rfl, rfl⟩ := H
   go_enter Try.func18, Try.ntmps18
   go_wp2_with (first | ((with_reducible refine gate_dst (N := 2) rfl ?_); refine be_ 2 26 #[.slice none 0 0, .slice none 0 0] ?_; intro gb233 hg w87 hbox hb; replace HB := Aside0.mk (below_step bs_ hb); have BK233 := Aside0.mk (hbox); have GW233 := Aside0.mk ((gk_ hg : w.heap.size ≤ gb233)); have GE233 := Aside0.mk ((Nat.le_trans HW0.out (gk_ hg : w.heap.size ≤ gb233) : w0.heap.size ≤ gb233)); replace HK := Aside0.mk (KeepBut.trans kp_ (KeepBut.of_below hb g none) (.inl rfl)); have NB0_233 := Aside0.mk ((by rw [hg]; exact Nat.ne_of_lt (IsS66.lt (show IsS66 w0 _ g s0_0 s0_1 from is66_)) : g ≠ gb233)); have NB233_0 := Aside0.mk ((by rw [hg]; exact Nat.ne_of_gt (IsS66.lt (show IsS66 w0 _ g s0_0 s0_1 from is66_)) : gb233 ≠ g)); replace HI0 := Aside0.mk (IsS66.below is66_ hb); clear hb hbox hg) | ((with_reducible refine gate_callee (f := 39) rfl ?_); refine gl_ 5 Try.func39 #[.pointer (some ⟨g, 0, none⟩)] ?_; (with_reducible refine (spec_l13Book.calls k g s0_0 s0_1 t234 t237 t240 w0 _ ?side1 ?side2 A2.out).mono ?_); (case side1 => exact is66_); (case side2 => exact bs_); rintro e w88 ⟨v235, v238, rfl, ho0, ho1, hi, hb, hk⟩; refine ⟨_, rfl, ?_⟩; replace BK233 := Aside0.mk (KeepBut.blk hk (g' := gb233) (o := .cells #[.slice none 0 0, .slice none 0 0] 26 (0, 0)) (bk_ BK233) NB233_0.out (by simp)); have HO236 := Aside0.mk (Kd.R_lower ho0 ks_); have HO239 := Aside0.mk (Kd.R_lower ho1 ks_); replace HK := Aside0.mk (KeepBut.trans kp_ hk (.inl rfl)); replace HB := Aside0.mk (hb); replace HI0 := Aside0.mk (hi); (try clear hb); (try clear hb2); (try clear hk); (try clear hi); (try clear ho0); (try clear ho1)) | ((with_reducible refine gate_dst (N := 3) rfl ?_); refine be_ 3 26 #[.slice none 0 0, .slice none 0 0] ?_; intro gb241 hg w89 hbox hb; replace HO236 := Aside0.mk (Kd.R_below (kR_ HO236) hb); replace HO239 := Aside0.mk (Kd.R_below (kR_ HO239) hb); replace HB := Aside0.mk (below_step bs_ hb); have BK241 := Aside0.mk (hbox); have GW241 := Aside0.mk ((gk_ hg : w.heap.size ≤ gb241)); have GE241 := Aside0.mk ((Nat.le_trans HW0.out (gk_ hg : w.heap.size ≤ gb241) : w0.heap.size ≤ gb241)); replace HK := Aside0.mk (KeepBut.trans kp_ (KeepBut.of_below hb g none) (.inl rfl)); have NB233_241 := Aside0.mk ((by rw [hg]; exact Nat.ne_of_lt (blk_lt (bk_ BK233)) : gb233 ≠ gb241)); have NB241_233 := Aside0.mk ((by rw [hg]; exact Nat.ne_of_gt (blk_lt (bk_ BK233)) : gb241 ≠ gb233)); replace BK233 := Aside0.mk (blk_below (bk_ BK233) hb); have NB0_241 := Aside0.mk ((by rw [hg]; exact Nat.ne_of_lt (IsS66.lt (show IsS66 w0 _ g s0_0 t240 from is66_)) : g ≠ gb241)); have NB241_0 := Aside0.mk ((by rw [hg]; exact Nat.ne_of_gt (IsS66.lt (show IsS66 w0 _ g s0_0 t240 from is66_)) : gb241 ≠ g)); replace HI0 := Aside0.mk (IsS66.below is66_ hb); clear hb hbox hg; obtain ⟨Ao90, co90, eo90⟩ := Kd.R_slice HO236.out; subst eo90; have hnb91 := NB241_233.out; have hnc91 := NB233_241.out; have hnb92 := NB241_0.out; have hnc92 := NB0_241.out; have hcz93_0 := bc0_ BK241; have hcz93_1 := bc1_ BK241; have hfz93_0 := blk_frozen BK241.out 0; have hfz93_1 := blk_frozen BK241.out 1; obtain ⟨Ao94, co94, eo94⟩ := Kd.R_slice HO239.out; subst eo94) | ((with_reducible refine gate_callee (f := 20) rfl ?_); refine gl_ 7 Try.func20 #[.pointer (some ⟨g, 0, none⟩), .int .i64 16] ?_; (with_reducible refine (spec_l1Rd_pick.calls k g s0_0 t240 16 t242 t243 w0 _ ?side1 ?side2 A3.out).mono ?_); (case side1 => exact is66_); (case side2 => exact bs_); rintro e w95 ⟨rfl, hi, hb, hk⟩; refine ⟨_, rfl, ?_⟩; replace BK233 := Aside0.mk (KeepBut.blk hk (g' := gb233) (o := .cells #[.slice none 0 0, .slice none 0 0] 26 (0, 0)) bq_ NB233_0.out (by simp)); replace HO236 := Aside0.mk (Kd.R_mono (Kd.R_keep (IsS66.apart (show IsS66 w0 _ g s0_0 t240 from is66_) (by (with_reducible repeat (first | apply Kd.R_alloc | apply Kd.R_drewN | apply Kd.R_drew)); exact (Kd.R_mono (Kd.R_far (p := ⟨gb241, 1, none⟩) (Kd.R_far (p := ⟨gb241, 0, none⟩) (Kd.R_types HO236.out BK241.out (by decide)) (fun _ hk => hk.2) (.slice Ao90 t234.length co90)) (fun _ hk => hk.2) (.slice Ao94 t237.length co94)) (fun _ h_ => h_.1))) (by decide)) hk (fun _ h => h.2)) (fun _ h => h.1)); replace HO239 := Aside0.mk (Kd.R_mono (Kd.R_keep (IsS66.apart (show IsS66 w0 _ g s0_0 t240 from is66_) (by (with_reducible repeat (first | apply Kd.R_alloc | apply Kd.R_drewN | apply Kd.R_drew)); exact (Kd.R_mono (Kd.R_far (p := ⟨gb241, 1, none⟩) (Kd.R_far (p := ⟨gb241, 0, none⟩) (Kd.R_types HO239.out BK241.out (by decide)) (fun _ hk => hk.2) (.slice Ao90 t234.length co90)) (fun _ hk => hk.2) (.slice Ao94 t237.length co94)) (fun _ h_ => h_.1))) (by decide)) hk (fun _ h => h.2)) (fun _ h => h.1)); replace BK241 := Aside0.mk (KeepBut.blk hk (g' := gb241) (o := .cells #[.slice Ao90 t234.length co90, .slice Ao94 t237.length co94] 26 (0, 0)) bq_ NB241_0.out (by simp)); replace HK := Aside0.mk (KeepBut.trans kp_ hk (.inl rfl)); replace HB := Aside0.mk (hb); replace HI0 := Aside0.mk (hi); (try clear hb); (try clear hb2); (try clear hk); (try clear hi); have hcz96_0 := bc0_ BK241; have hcz96_1 := bc1_ BK241; have hfz96_0 := blk_frozen BK241.out 0; have hfz96_1 := blk_frozen BK241.out 1; have hnb97 := NB233_0.out; have hnc97 := NB0_233.out; have hcz98_0 := bc0_ BK233; have hcz98_1 := bc1_ BK233; have hfz98_0 := blk_frozen BK233.out 0; have hfz98_1 := blk_frozen BK233.out 1))
   refine bodyPost_ret (results_cell_row rfl _ _ gb233 26 #[.slice Ao90 t234.length co90, .slice Ao94 t237.length co94] (0, 0) _ rfl bq_ Try.underlying26 rfl (by kernel_rfl)) rfl ?_
   exact ⟨_, _, rfe_, by (with_reducible repeat (first | apply Kd.R_alloc | apply Kd.R_drewN | apply Kd.R_drew)); exact Kd.R_mono (Kd.R_far (p := ⟨gb233, 1, none⟩) (Kd.R_far (p := ⟨gb233, 0, none⟩) (Kd.R_types HO236.out BK233.out (by decide)) (fun _ hk => hk.2) (.slice Ao90 t234.length co90)) (fun _ hk => hk.2) (.slice Ao94 t237.length co94)) (fun _ hk => trivial), by (with_reducible repeat (first | apply Kd.R_alloc | apply Kd.R_drewN | apply Kd.R_drew)); exact Kd.R_mono (Kd.R_far (p := ⟨gb233, 1, none⟩) (Kd.R_far (p := ⟨gb233, 0, none⟩) (Kd.R_types HO239.out BK233.out (by decide)) (fun _ hk => hk.2) (.slice Ao90 t234.length co90)) (fun _ hk => hk.2) (.slice Ao94 t237.length co94)) (fun _ hk => trivial), is66_, bs_, kp_⟩
 have c50b0 : (t242 == 2) = true := beq_iff_eq.mpr c50
 have c50b1 : (t242 != 2) = false := bne_eq_false_iff_eq.mpr c50
 clear c50
 replace H := iucc_ H; rcases H with ⟨c51, H⟩ | ⟨c51, H⟩
 · have c51b0 : decide (0 < (t237.length : Int)) = false := decide_eq_false c51
   have c51b1 : decide (0 < t237.length) = false := decide_eq_false (by omega)
   clear c51
   simp only [Option.some.injEq, Prod.mk.injEq] at H
   obtain ⟨rfl, rfl, rfl⟩ := H
   go_enter Try.func18, Try.ntmps18
   go_wp2_with (first | ((with_reducible refine gate_dst (N := 2) rfl ?_); refine be_ 2 26 #[.slice none 0 0, .slice none 0 0] ?_; intro gb233 hg w75 hbox hb; replace HB := Aside0.mk (below_step bs_ hb); have BK233 := Aside0.mk (hbox); have GW233 := Aside0.mk ((gk_ hg : w.heap.size ≤ gb233)); have GE233 := Aside0.mk ((Nat.le_trans HW0.out (gk_ hg : w.heap.size ≤ gb233) : w0.heap.size ≤ gb233)); replace HK := Aside0.mk (KeepBut.trans kp_ (KeepBut.of_below hb g none) (.inl rfl)); have NB0_233 := Aside0.mk ((by rw [hg]; exact Nat.ne_of_lt (IsS66.lt (show IsS66 w0 _ g s0_0 s0_1 from is66_)) : g ≠ gb233)); have NB233_0 := Aside0.mk ((by rw [hg]; exact Nat.ne_of_gt (IsS66.lt (show IsS66 w0 _ g s0_0 s0_1 from is66_)) : gb233 ≠ g)); replace HI0 := Aside0.mk (IsS66.below is66_ hb); clear hb hbox hg) | ((with_reducible refine gate_callee (f := 39) rfl ?_); refine gl_ 5 Try.func39 #[.pointer (some ⟨g, 0, none⟩)] ?_; (with_reducible refine (spec_l13Book.calls k g s0_0 s0_1 t234 t237 t240 w0 _ ?side1 ?side2 A2.out).mono ?_); (case side1 => exact is66_); (case side2 => exact bs_); rintro e w76 ⟨v235, v238, rfl, ho0, ho1, hi, hb, hk⟩; refine ⟨_, rfl, ?_⟩; replace BK233 := Aside0.mk (KeepBut.blk hk (g' := gb233) (o := .cells #[.slice none 0 0, .slice none 0 0] 26 (0, 0)) (bk_ BK233) NB233_0.out (by simp)); have HO236 := Aside0.mk (Kd.R_lower ho0 ks_); have HO239 := Aside0.mk (Kd.R_lower ho1 ks_); replace HK := Aside0.mk (KeepBut.trans kp_ hk (.inl rfl)); replace HB := Aside0.mk (hb); replace HI0 := Aside0.mk (hi); (try clear hb); (try clear hb2); (try clear hk); (try clear hi); (try clear ho0); (try clear ho1)) | ((with_reducible refine gate_dst (N := 3) rfl ?_); refine be_ 3 26 #[.slice none 0 0, .slice none 0 0] ?_; intro gb241 hg w77 hbox hb; replace HO236 := Aside0.mk (Kd.R_below (kR_ HO236) hb); replace HO239 := Aside0.mk (Kd.R_below (kR_ HO239) hb); replace HB := Aside0.mk (below_step bs_ hb); have BK241 := Aside0.mk (hbox); have GW241 := Aside0.mk ((gk_ hg : w.heap.size ≤ gb241)); have GE241 := Aside0.mk ((Nat.le_trans HW0.out (gk_ hg : w.heap.size ≤ gb241) : w0.heap.size ≤ gb241)); replace HK := Aside0.mk (KeepBut.trans kp_ (KeepBut.of_below hb g none) (.inl rfl)); have NB233_241 := Aside0.mk ((by rw [hg]; exact Nat.ne_of_lt (blk_lt (bk_ BK233)) : gb233 ≠ gb241)); have NB241_233 := Aside0.mk ((by rw [hg]; exact Nat.ne_of_gt (blk_lt (bk_ BK233)) : gb241 ≠ gb233)); replace BK233 := Aside0.mk (blk_below (bk_ BK233) hb); have NB0_241 := Aside0.mk ((by rw [hg]; exact Nat.ne_of_lt (IsS66.lt (show IsS66 w0 _ g s0_0 t240 from is66_)) : g ≠ gb241)); have NB241_0 := Aside0.mk ((by rw [hg]; exact Nat.ne_of_gt (IsS66.lt (show IsS66 w0 _ g s0_0 t240 from is66_)) : gb241 ≠ g)); replace HI0 := Aside0.mk (IsS66.below is66_ hb); clear hb hbox hg; obtain ⟨Ao78, co78, eo78⟩ := Kd.R_slice HO236.out; subst eo78; have hnb79 := NB241_233.out; have hnc79 := NB233_241.out; have hnb80 := NB241_0.out; have hnc80 := NB0_241.out; have hcz81_0 := bc0_ BK241; have hcz81_1 := bc1_ BK241; have hfz81_0 := blk_frozen BK241.out 0; have hfz81_1 := blk_frozen BK241.out 1; obtain ⟨Ao82, co82, eo82⟩ := Kd.R_slice HO239.out; subst eo82) | ((with_reducible refine gate_callee (f := 20) rfl ?_); refine gl_ 7 Try.func20 #[.pointer (some ⟨g, 0, none⟩), .int .i64 16] ?_; (with_reducible refine (spec_l1Rd_pick.calls k g s0_0 t240 16 t242 t243 w0 _ ?side1 ?side2 A3.out).mono ?_); (case side1 => exact is66_); (case side2 => exact bs_); rintro e w83 ⟨rfl, hi, hb, hk⟩; refine ⟨_, rfl, ?_⟩; replace BK233 := Aside0.mk (KeepBut.blk hk (g' := gb233) (o := .cells #[.slice none 0 0, .slice none 0 0] 26 (0, 0)) bq_ NB233_0.out (by simp)); replace HO236 := Aside0.mk (Kd.R_mono (Kd.R_keep (IsS66.apart (show IsS66 w0 _ g s0_0 t240 from is66_) (by (with_reducible repeat (first | apply Kd.R_alloc | apply Kd.R_drewN | apply Kd.R_drew)); exact (Kd.R_mono (Kd.R_far (p := ⟨gb241, 1, none⟩) (Kd.R_far (p := ⟨gb241, 0, none⟩) (Kd.R_types HO236.out BK241.out (by decide)) (fun _ hk => hk.2) (.slice Ao78 t234.length co78)) (fun _ hk => hk.2) (.slice Ao82 t237.length co82)) (fun _ h_ => h_.1))) (by decide)) hk (fun _ h => h.2)) (fun _ h => h.1)); replace HO239 := Aside0.mk (Kd.R_mono (Kd.R_keep (IsS66.apart (show IsS66 w0 _ g s0_0 t240 from is66_) (by (with_reducible repeat (first | apply Kd.R_alloc | apply Kd.R_drewN | apply Kd.R_drew)); exact (Kd.R_mono (Kd.R_far (p := ⟨gb241, 1, none⟩) (Kd.R_far (p := ⟨gb241, 0, none⟩) (Kd.R_types HO239.out BK241.out (by decide)) (fun _ hk => hk.2) (.slice Ao78 t234.length co78)) (fun _ hk => hk.2) (.slice Ao82 t237.length co82)) (fun _ h_ => h_.1))) (by decide)) hk (fun _ h => h.2)) (fun _ h => h.1)); replace BK241 := Aside0.mk (KeepBut.blk hk (g' := gb241) (o := .cells #[.slice Ao78 t234.length co78, .slice Ao82 t237.length co82] 26 (0, 0)) bq_ NB241_0.out (by simp)); replace HK := Aside0.mk (KeepBut.trans kp_ hk (.inl rfl)); replace HB := Aside0.mk (hb); replace HI0 := Aside0.mk (hi); (try clear hb); (try clear hb2); (try clear hk); (try clear hi); have hcz84_0 := bc0_ BK241; have hcz84_1 := bc1_ BK241; have hfz84_0 := blk_frozen BK241.out 0; have hfz84_1 := blk_frozen BK241.out 1; have hnb85 := NB233_0.out; have hnc85 := NB0_233.out; have hcz86_0 := bc0_ BK233; have hcz86_1 := bc1_ BK233; have hfz86_0 := blk_frozen BK233.out 0; have hfz86_1 := blk_frozen BK233.out 1))
   refine bodyPost_ret (results_cell_row rfl _ _ gb233 26 #[.slice Ao78 t234.length co78, .slice Ao82 t237.length co82] (0, 0) _ rfl bq_ Try.underlying26 rfl (by kernel_rfl)) rfl ?_
   exact ⟨_, _, rfe_, by (with_reducible repeat (first | apply Kd.R_alloc | apply Kd.R_drewN | apply Kd.R_drew)); exact Kd.R_mono (Kd.R_far (p := ⟨gb233, 1, none⟩) (Kd.R_far (p := ⟨gb233, 0, none⟩) (Kd.R_types HO236.out BK233.out (by decide)) (fun _ hk => hk.2) (.slice Ao78 t234.length co78)) (fun _ hk => hk.2) (.slice Ao82 t237.length co82)) (fun _ hk => trivial), by (with_reducible repeat (first | apply Kd.R_alloc | apply Kd.R_drewN | apply Kd.R_drew)); exact Kd.R_mono (Kd.R_far (p := ⟨gb233, 1, none⟩) (Kd.R_far (p := ⟨gb233, 0, none⟩) (Kd.R_types HO239.out BK233.out (by decide)) (fun _ hk => hk.2) (.slice Ao78 t234.length co78)) (fun _ hk => hk.2) (.slice Ao82 t237.length co82)) (fun _ hk => trivial), is66_, bs_, kp_⟩
 have c51b0 : decide (0 < (t237.length : Int)) = true := decide_eq_true c51
 have c51b1 : decide (0 < t237.length) = true := decide_eq_true (by omega)
 clear c51
 obtain ⟨y263, hy_⟩ : ∃ y_ : List ByteArray, y_ = (([(⟨#[]⟩ : ByteArray), (⟨#[122, 122]⟩ : ByteArray), (⟨#[65]⟩ : ByteArray)] : List ByteArray)) := ⟨_, rfl⟩
 replace H : ((spec_l1Rd_of.f k s0_0 t243 y263).bind fun bt266 => (if 0 < (t237.length : Int) then (some (t234, (t237.set (0 : Int).toNat (⟨bt266.1, (rd_T73 t237 0).f1⟩ : S73)), bt266.2)) else (none))) = some (r1, r2, r3) := ry_
 have Ny263 := Aside0.mk hy_; clear hy_
 replace H := Option.bind_eq_some_iff.mp H
 obtain ⟨⟨t266, t267⟩, A520, H⟩ := H; try dsimp only at H
 have A52 := Aside0.mk A520
 clear A520
 replace H := inc_ H; obtain ⟨c53, H⟩ := H
 have c53b0 : decide (0 < (t237.length : Int)) = true := decide_eq_true c53
 have c53b1 : decide (0 < t237.length) = true := decide_eq_true (by omega)
 clear c53
 obtain ⟨y268, hy_⟩ : ∃ y_ : List (S73), y_ = (t237.set (0 : Int).toNat (⟨t266, (rd_T73 t237 0).f1⟩ : S73)) := ⟨_, rfl⟩
 replace H : (some (t234, y268, t267)) = some (r1, r2, r3) := ry_
 have Ny268 := Aside0.mk hy_; clear hy_
 simp only [Option.some.injEq, Prod.mk.injEq] at H
 obtain ⟨rfl, rfl, rfl⟩ := H
 go_enter Try.func18, Try.ntmps18
 try go_wp2_with (first | ((with_reducible refine gate_dst (N := 2) rfl ?_); refine be_ 2 26 #[.slice none 0 0, .slice none 0 0] ?_; intro gb233 hg w55 hbox hb; replace HB := Aside0.mk (below_step bs_ hb); have BK233 := Aside0.mk (hbox); have GW233 := Aside0.mk ((gk_ hg : w.heap.size ≤ gb233)); have GE233 := Aside0.mk ((Nat.le_trans HW0.out (gk_ hg : w.heap.size ≤ gb233) : w0.heap.size ≤ gb233)); replace HK := Aside0.mk (KeepBut.trans kp_ (KeepBut.of_below hb g none) (.inl rfl)); have NB0_233 := Aside0.mk ((by rw [hg]; exact Nat.ne_of_lt (IsS66.lt (show IsS66 w0 _ g s0_0 s0_1 from is66_)) : g ≠ gb233)); have NB233_0 := Aside0.mk ((by rw [hg]; exact Nat.ne_of_gt (IsS66.lt (show IsS66 w0 _ g s0_0 s0_1 from is66_)) : gb233 ≠ g)); replace HI0 := Aside0.mk (IsS66.below is66_ hb); clear hb hbox hg) | ((with_reducible refine gate_callee (f := 39) rfl ?_); refine gl_ 5 Try.func39 #[.pointer (some ⟨g, 0, none⟩)] ?_; (with_reducible refine (spec_l13Book.calls k g s0_0 s0_1 t234 t237 t240 w0 _ ?side1 ?side2 A2.out).mono ?_); (case side1 => exact is66_); (case side2 => exact bs_); rintro e w56 ⟨v235, v238, rfl, ho0, ho1, hi, hb, hk⟩; refine ⟨_, rfl, ?_⟩; replace BK233 := Aside0.mk (KeepBut.blk hk (g' := gb233) (o := .cells #[.slice none 0 0, .slice none 0 0] 26 (0, 0)) (bk_ BK233) NB233_0.out (by simp)); have HO236 := Aside0.mk (Kd.R_lower ho0 ks_); have HO239 := Aside0.mk (Kd.R_lower ho1 ks_); replace HK := Aside0.mk (KeepBut.trans kp_ hk (.inl rfl)); replace HB := Aside0.mk (hb); replace HI0 := Aside0.mk (hi); (try clear hb); (try clear hb2); (try clear hk); (try clear hi); (try clear ho0); (try clear ho1)) | ((with_reducible refine gate_dst (N := 3) rfl ?_); refine be_ 3 26 #[.slice none 0 0, .slice none 0 0] ?_; intro gb241 hg w57 hbox hb; replace HO236 := Aside0.mk (Kd.R_below (kR_ HO236) hb); replace HO239 := Aside0.mk (Kd.R_below (kR_ HO239) hb); replace HB := Aside0.mk (below_step bs_ hb); have BK241 := Aside0.mk (hbox); have GW241 := Aside0.mk ((gk_ hg : w.heap.size ≤ gb241)); have GE241 := Aside0.mk ((Nat.le_trans HW0.out (gk_ hg : w.heap.size ≤ gb241) : w0.heap.size ≤ gb241)); replace HK := Aside0.mk (KeepBut.trans kp_ (KeepBut.of_below hb g none) (.inl rfl)); have NB233_241 := Aside0.mk ((by rw [hg]; exact Nat.ne_of_lt (blk_lt (bk_ BK233)) : gb233 ≠ gb241)); have NB241_233 := Aside0.mk ((by rw [hg]; exact Nat.ne_of_gt (blk_lt (bk_ BK233)) : gb241 ≠ gb233)); replace BK233 := Aside0.mk (blk_below (bk_ BK233) hb); have NB0_241 := Aside0.mk ((by rw [hg]; exact Nat.ne_of_lt (IsS66.lt (show IsS66 w0 _ g s0_0 t240 from is66_)) : g ≠ gb241)); have NB241_0 := Aside0.mk ((by rw [hg]; exact Nat.ne_of_gt (IsS66.lt (show IsS66 w0 _ g s0_0 t240 from is66_)) : gb241 ≠ g)); replace HI0 := Aside0.mk (IsS66.below is66_ hb); clear hb hbox hg; obtain ⟨Ao58, co58, eo58⟩ := Kd.R_slice HO236.out; subst eo58; have hnb59 := NB241_233.out; have hnc59 := NB233_241.out; have hnb60 := NB241_0.out; have hnc60 := NB0_241.out; have hcz61_0 := bc0_ BK241; have hcz61_1 := bc1_ BK241; have hfz61_0 := blk_frozen BK241.out 0; have hfz61_1 := blk_frozen BK241.out 1; obtain ⟨Ao62, co62, eo62⟩ := Kd.R_slice HO239.out; subst eo62) | ((with_reducible refine gate_callee (f := 20) rfl ?_); refine gl_ 7 Try.func20 #[.pointer (some ⟨g, 0, none⟩), .int .i64 16] ?_; (with_reducible refine (spec_l1Rd_pick.calls k g s0_0 t240 16 t242 t243 w0 _ ?side1 ?side2 A3.out).mono ?_); (case side1 => exact is66_); (case side2 => exact bs_); rintro e w63 ⟨rfl, hi, hb, hk⟩; refine ⟨_, rfl, ?_⟩; replace BK233 := Aside0.mk (KeepBut.blk hk (g' := gb233) (o := .cells #[.slice none 0 0, .slice none 0 0] 26 (0, 0)) bq_ NB233_0.out (by simp)); replace HO236 := Aside0.mk (Kd.R_mono (Kd.R_keep (IsS66.apart (show IsS66 w0 _ g s0_0 t240 from is66_) (by (with_reducible repeat (first | apply Kd.R_alloc | apply Kd.R_drewN | apply Kd.R_drew)); exact (Kd.R_mono (Kd.R_far (p := ⟨gb241, 1, none⟩) (Kd.R_far (p := ⟨gb241, 0, none⟩) (Kd.R_types HO236.out BK241.out (by decide)) (fun _ hk => hk.2) (.slice Ao58 t234.length co58)) (fun _ hk => hk.2) (.slice Ao62 t237.length co62)) (fun _ h_ => h_.1))) (by decide)) hk (fun _ h => h.2)) (fun _ h => h.1)); replace HO239 := Aside0.mk (Kd.R_mono (Kd.R_keep (IsS66.apart (show IsS66 w0 _ g s0_0 t240 from is66_) (by (with_reducible repeat (first | apply Kd.R_alloc | apply Kd.R_drewN | apply Kd.R_drew)); exact (Kd.R_mono (Kd.R_far (p := ⟨gb241, 1, none⟩) (Kd.R_far (p := ⟨gb241, 0, none⟩) (Kd.R_types HO239.out BK241.out (by decide)) (fun _ hk => hk.2) (.slice Ao58 t234.length co58)) (fun _ hk => hk.2) (.slice Ao62 t237.length co62)) (fun _ h_ => h_.1))) (by decide)) hk (fun _ h => h.2)) (fun _ h => h.1)); replace BK241 := Aside0.mk (KeepBut.blk hk (g' := gb241) (o := .cells #[.slice Ao58 t234.length co58, .slice Ao62 t237.length co62] 26 (0, 0)) bq_ NB241_0.out (by simp)); replace HK := Aside0.mk (KeepBut.trans kp_ hk (.inl rfl)); replace HB := Aside0.mk (hb); replace HI0 := Aside0.mk (hi); (try clear hb); (try clear hb2); (try clear hk); (try clear hi); have hcz64_0 := bc0_ BK241; have hcz64_1 := bc1_ BK241; have hfz64_0 := blk_frozen BK241.out 0; have hfz64_1 := blk_frozen BK241.out 1))
 replace HO236 := Aside0.mk (Kd.R_drew HO236.out)
 replace HO239 := Aside0.mk (Kd.R_drew HO239.out)
 replace BK233 := Aside0.mk (blk_drew BK233.out)
 replace BK241 := Aside0.mk (blk_drew BK241.out)
 replace HI0 := Aside0.mk (IsS66.drew HI0.out)
 replace HK := Aside0.mk (keep_drew HK.out)
 replace HB := Aside0.mk (below_drew1 HB.out)
 refine start_ (n := 8) (S := fun w' => w'.cell? ⟨gb241, 0, none⟩ = some (.slice Ao58 t234.length co58) ∧ w'.cell? ⟨gb241, 1, none⟩ = some (.slice Ao62 t237.length co62)) (ds := [7]) (bm 8 0) (by kernel_rfl) rfl rfl ⟨(blk_cell BK241.out 0).trans rfl, (blk_cell BK241.out 1).trans rfl⟩ (fun hHeld => ?_); refine with_tabW spec_l13AnyBook.tab9 spec_l13AnyBook.bits9 (fun HT_ HW_ => ?_)
 generalize w63.drew = w65 at HO236 HO239 BK233 BK241 HI0 HK HB hHeld ⊢
 refine sp_ 0 (some 36) (bm 8 1) HT_ (h := ?_)
 refine sp_ 2 (some 38) (bm 8 5) HT_ (h := ?_)
 refine sr_ 1 (some 37) (bm 8 7) HT_ HW_ hHeld (h := ?_)
 refine sn_ 3 (some 39) (bm 8 15) HT_ (fun K hK => ?_)
 refine Kd.R_lit_step Kd.string _ 9 ?hg (N := 39) ?hd (xs := ([(⟨#[]⟩ : ByteArray), (⟨#[122, 122]⟩ : ByteArray), (⟨#[65]⟩ : ByteArray)] : List ByteArray)) (inner := [.string (⟨#[]⟩ : ByteArray), .string (⟨#[122, 122]⟩ : ByteArray), .string (⟨#[65]⟩ : ByteArray)]) (ok := fun _ => True) (okp := fun _ => True) ?hr ?hp (fun _ hk => hk) trivial (Below.refl _ _) (Nat.le_refl _) (by simp) ?_; (case hd => rfl); (case hg => rfl); (case hr => first | (go_simp; done) | (go_simp; rfl)); (case hp => exact (Reps.one (show Kd.M Kd.string _ _ _ (⟨#[]⟩ : ByteArray) [.string (⟨#[]⟩ : ByteArray)] from rfl) (Reps.one (show Kd.M Kd.string _ _ _ (⟨#[122, 122]⟩ : ByteArray) [.string (⟨#[122, 122]⟩ : ByteArray)] from rfl) (Reps.one (show Kd.M Kd.string _ _ _ (⟨#[65]⟩ : ByteArray) [.string (⟨#[65]⟩ : ByteArray)] from rfl) (Reps.none _ _)))))
 intro v264 w66 ho67 hb hg_ hnew_
 clear hg_ hnew_
 (first | rw [← Ny263.out] at ho67 | (simp only [Int.reduceToNat] at ho67; rw [← Ny263.out] at ho67))
 replace HO236 := Aside0.mk (Kd.R_below (kR_ HO236) hb)
 replace HO239 := Aside0.mk (Kd.R_below (kR_ HO239) hb)
 have HO265 := Aside0.mk (Kd.R_lower ho67 ks_)
 replace BK233 := Aside0.mk (blk_below (bk_ BK233) hb)
 replace BK241 := Aside0.mk (blk_below (bk_ BK241) hb)
 replace HK := Aside0.mk (KeepBut.trans kp_ (KeepBut.of_below hb g none) (.inl rfl))
 replace HB := Aside0.mk (below_step bs_ hb)
 replace HI0 := Aside0.mk (IsS66.below is66_ hb)
 clear hb ho67
 obtain ⟨Ao68, co68, eo68⟩ := Kd.R_slice HO265.out
 (first | subst eo68 | (injection eo68 with f1_ f2_ f3_; have f4_ := f1_.symm; have f5_ := f3_.symm; clear f1_ f2_ f3_; subst f4_; subst f5_))
 refine hK.out _ _ ⟨(blk_cell BK241.out 0).trans rfl, (blk_cell BK241.out 1).trans rfl⟩ (fun hHeld => ?_)
 clear hK K
 refine nm_ ?_
 refine sn_ 4 (some 40) (bm 8 31) HT_ (fun K hK => ?_)
 refine goes_ Try.func42 (by kernel_rfl) rfl #[.pointer (some ⟨g, 0, none⟩), .slice Ao68 y263.length co68] (by rfl) rfl rfl (by (try simp only [List.map_toArray, List.map_cons, List.map_nil]); first | done | rfl | (simp only [List.length_drop, List.length_take]; rfl)) ?_
 with_reducible refine (spec_l1Rd_of.calls k g s0_0 t243 _ _ y263 t266 t267 w0 _ ?side1 ?side2 ?side3 ?side4 ?side5 A52.out).mono ?_
 (case side1 => exact is66_)
 (case side2 => exact bs_)
 (case side3 => exact cr_ HO265)
 (case side4 => exact (Kd.R_reads' HO265.out).2.1)
 (case side5 => exact far_slice (IsS66.own_ne HI0.out HO265.out (by decide)))
 rintro e w69 ⟨rfl, hi, hb, hk⟩
 refine ⟨_, rfl, ?_⟩
 replace BK233 := Aside0.mk (KeepBut.blk hk (g' := gb233) (o := .cells #[.slice none 0 0, .slice none 0 0] 26 (0, 0)) (bk_ BK233) NB233_0.out (by simp))
 replace HO236 := Aside0.mk (kaR66_ (kR_ HO236) hk)
 replace HO239 := Aside0.mk (kaR66_ (kR_ HO239) hk)
 replace BK241 := Aside0.mk (KeepBut.blk hk (g' := gb241) (o := .cells #[.slice Ao58 t234.length co58, .slice Ao62 t237.length co62] 26 (0, 0)) (bk_ BK241) NB241_0.out (by simp))
 replace HO265 := Aside0.mk (kaR66_ (kR_ HO265) hk)
 replace HK := Aside0.mk (KeepBut.trans kp_ hk (.inl rfl))
 replace HB := Aside0.mk (hb)
 replace HI0 := Aside0.mk (hi)
 (try clear hb)
 (try clear hb2)
 (try clear hk)
 (try clear hi)
 have p54 : 0 ≤ (0 : Int) := (by omega)
 have q54 : (0 : Int) < ((t237.length : Int) : Int) := od_
 have qi54 : (0 < t237.length) = True := eq_true (by omega)
 obtain ⟨go54, co54, eo54, gb54, gl54, cl54, HG54⟩ := Kd.R_form HO239.out (by omega)
 (first | cases eo54 | (injection eo54 with ea_ en_ ec_; (first | subst ea_ | (injection ea_ with ea_; subst ea_)); subst ec_; clear en_))
 have GB54 := Aside0.mk gb54
 have GG54 := Aside0.mk HG54
 clear gb54 gl54 HG54
 obtain ⟨ce54, hcl54, hM54, hcc54, hfr54⟩ := Kd.R_elem HO239.out z73 (0 : Int) p54 q54
 obtain rfl := k73_openM hM54
 have hx54_0 : World.cell? _ ⟨go54, (0 : Int).toNat * 2, none⟩ = some (.string ((rd_T73 t237 0).f0)) := hcc54 0 _ rfl
 have hx54_1 : World.cell? _ ⟨go54, (0 : Int).toNat * 2 + 1, none⟩ = some (.string ((rd_T73 t237 0).f1)) := hcc54 1 _ rfl
 have hf54_0 : World.frozen? _ ⟨go54, (0 : Int).toNat * 2, none⟩ = false := hfr54 0
 have hf54_1 : World.frozen? _ ⟨go54, (0 : Int).toNat * 2 + 1, none⟩ = false := hfr54 1
 clear hcl54 hcc54 hfr54 hM54
 (try rw [show ((0 : Int)).toNat = 0 from rfl] at hx54_0)
 (try simp only [Nat.reduceMul, Nat.zero_mul, Nat.zero_add, Nat.reduceAdd] at hx54_0)
 (try rw [show ((0 : Int)).toNat = 0 from rfl] at hf54_0)
 (try simp only [Nat.reduceMul, Nat.zero_mul, Nat.zero_add, Nat.reduceAdd] at hf54_0)
 (try rw [show ((0 : Int)).toNat = 0 from rfl] at hx54_1)
 (try simp only [Nat.reduceMul, Nat.zero_mul, Nat.zero_add, Nat.reduceAdd] at hx54_1)
 (try rw [show ((0 : Int)).toNat = 0 from rfl] at hf54_1)
 (try simp only [Nat.reduceMul, Nat.zero_mul, Nat.zero_add, Nat.reduceAdd] at hf54_1)
 replace p54 := eq_true p54; replace q54 := eq_true q54
 have HN0_go54 := Aside0.mk (show g ≠ go54 from by have h_ := IsS66.own_ne HI0.out HO239.out (by decide); intro e_; exact h_ (by rw [e_]; rfl))
 obtain ⟨ce70, hcl70, hM70, hcc70, hfr70⟩ := Kd.R_elem HO239.out z73 (0 : Int) (by omega) (by have h_ : (0 : Int) < ((t237.length : Int) : Int) := od_; first | exact h_ | (have e_ := (Kd.R_reads' HO239.out).1; omega) | simpa using h_)
 obtain rfl := k73_openM hM70
 have HP70 := (Kd.R_seg HO239.out (0 : Int) (by omega) (by have h_ : (0 : Int) < ((t237.length : Int) : Int) := od_; first | exact h_ | (have e_ := (Kd.R_reads' HO239.out).1; omega) | simpa using h_) (seg := [.string t266]) (j := 0) hcl70 hcc70 (show 1 ≤ 2 from by decide) (x' := (⟨t266, (rd_T73 t237 0).f1⟩ : S73)) (k73_mkM _ _ _ (⟨t266, (rd_T73 t237 0).f1⟩ : S73) ) (fun _ hk => hk)).1
 rw [← Ny268.out] at HP70
 have HQ70 := Aside0.mk HP70
 clear hcl70 hcc70 hfr70 hM70 HP70
 refine hK.out _ _ ⟨(blk_cell BK241.out 0).trans rfl, (blk_cell BK241.out 1).trans rfl⟩ (fun hHeld => ?_)
 clear hK K
 refine nm_ ?_
 refine sp_ 5 (some 41) (bm 8 63) HT_ (h := ?_)
 refine sp_ 6 (some 42) (bm 8 127) HT_ (h := ?_)
 refine la_ 7 none (bm 8 255) HT_ (fun K hK => ?_)
 refine skip_ (w1 := ?_) (by rfl) rfl ?_ ?_
 rotate_left
 · go_simp
   rfl
 refine hK.out _ _ ?_
 clear hK K
 refine done_ (done_of HT_.out (by kernel_rfl)) ?_
 have n0_ : Aside0 (Kd.R k68 68 (w69.setCell ⟨go54, 0, none⟩ (.string t266)) w.heap.size (fun _ => True) (.slice Ao58 t234.length co58) t234) := ⟨by (with_reducible repeat (first | apply Kd.R_alloc | apply Kd.R_drewN | apply Kd.R_drew)); exact Kd.R_mono (Kd.R_far (p := ⟨go54, 0, none⟩) (Kd.R_types HO236.out GG54.out (by decide)) (fun _ hk => hk.2) (.string t266)) (fun _ hk => trivial)⟩
 have n1_ : Aside0 (Kd.R k73 73 (w69.setCell ⟨go54, 0, none⟩ (.string t266)) w.heap.size (fun _ => True) (.slice (some ⟨go54, 0, none⟩) t237.length co62) y268) := ⟨by (with_reducible repeat (first | apply Kd.R_alloc | apply Kd.R_drewN | apply Kd.R_drew)); exact HQ70.out⟩
 have n2_ : Aside0 (Kd.R Kd.string 9 (w69.setCell ⟨go54, 0, none⟩ (.string t266)) w.heap.size (fun _ => True) (.slice Ao68 y263.length co68) y263) := ⟨by (with_reducible repeat (first | apply Kd.R_alloc | apply Kd.R_drewN | apply Kd.R_drew)); exact Kd.R_mono (Kd.R_far (p := ⟨go54, 0, none⟩) (Kd.R_types HO265.out GG54.out (by decide)) (fun _ hk => hk.2) (.string t266)) (fun _ hk => trivial)⟩
 have n3_ : Aside0 ((w69.setCell ⟨go54, 0, none⟩ (.string t266)).heap[gb233]? = some (.cells #[.slice none 0 0, .slice none 0 0] 26 (0, 0))) := ⟨by (with_reducible repeat (first | refine blk_drewN ?_ _ | refine blk_drew ?_ | refine blk_alloc ?_ _)); refine blk_far ?_ (by have h_ := Kd.R_ne HO239.out BK233.out (by decide); intro e_; exact h_ (by rw [e_]; rfl)) _; (with_reducible repeat (first | refine blk_drewN ?_ _ | refine blk_drew ?_ | refine blk_alloc ?_ _)); exact BK233.out⟩
 have n4_ : Aside0 ((w69.setCell ⟨go54, 0, none⟩ (.string t266)).heap[gb241]? = some (.cells #[.slice Ao58 t234.length co58, .slice (some ⟨go54, 0, none⟩) t237.length co62] 26 (0, 0))) := ⟨by (with_reducible repeat (first | refine blk_drewN ?_ _ | refine blk_drew ?_ | refine blk_alloc ?_ _)); refine blk_far ?_ (by have h_ := Kd.R_ne HO239.out BK241.out (by decide); intro e_; exact h_ (by rw [e_]; rfl)) _; (with_reducible repeat (first | refine blk_drewN ?_ _ | refine blk_drew ?_ | refine blk_alloc ?_ _)); exact BK241.out⟩
 have n5_ : Aside0 (IsS66 w0 (w69.setCell ⟨go54, 0, none⟩ (.string t266)) g s0_0 t267) := ⟨is66_⟩
 have n6_ : Aside0 (KeepBut w (w69.setCell ⟨go54, 0, none⟩ (.string t266)) g none) := ⟨kp_⟩
 have n7_ : Aside0 (Below w0.heap.size w0 (w69.setCell ⟨go54, 0, none⟩ (.string t266))) := ⟨bs_⟩
 (try clear HO236)
 (try clear HO239)
 (try clear HO265)
 (try clear BK233)
 (try clear BK241)
 (try clear HI0)
 (try clear HK)
 (try clear HB)
 generalize (w69.setCell ⟨go54, 0, none⟩ (.string t266)) = w71 at n0_ n1_ n2_ n3_ n4_ n5_ n6_ n7_ ⊢
 have HO236 := n0_
 have HO239 := n1_
 have HO265 := n2_
 have BK233 := n3_
 have BK241 := n4_
 have HI0 := n5_
 have HK := n6_
 have HB := n7_
 clear n0_ n1_ n2_ n3_ n4_ n5_ n6_ n7_
 have hcz72_0 := bc0_ BK241
 have hcz72_1 := bc1_ BK241
 have hfz72_0 := blk_frozen BK241.out 0
 have hfz72_1 := blk_frozen BK241.out 1
 have hnb73 := NB233_0.out
 have hnc73 := NB0_233.out
 have hcz74_0 := bc0_ BK233
 have hcz74_1 := bc1_ BK233
 have hfz74_0 := blk_frozen BK233.out 0
 have hfz74_1 := blk_frozen BK233.out 1
 try go_wp2
 refine bodyPost_ret (results_cell_row rfl _ _ gb233 26 #[.slice Ao58 t234.length co58, .slice (some ⟨go54, 0, none⟩) t237.length co62] (0, 0) _ rfl bq_ Try.underlying26 rfl (by kernel_rfl)) rfl ?_
 exact ⟨_, _, rfe_, by (with_reducible repeat (first | apply Kd.R_alloc | apply Kd.R_drewN | apply Kd.R_drew)); exact Kd.R_mono (Kd.R_far (p := ⟨gb233, 1, none⟩) (Kd.R_far (p := ⟨gb233, 0, none⟩) (Kd.R_types HO236.out BK233.out (by decide)) (fun _ hk => hk.2) (.slice Ao58 t234.length co58)) (fun _ hk => hk.2) (.slice (some ⟨go54, 0, none⟩) t237.length co62)) (fun _ hk => trivial), by (with_reducible repeat (first | apply Kd.R_alloc | apply Kd.R_drewN | apply Kd.R_drew)); exact Kd.R_mono (Kd.R_far (p := ⟨gb233, 1, none⟩) (Kd.R_far (p := ⟨gb233, 0, none⟩) (Kd.R_types HO239.out BK233.out (by decide)) (fun _ hk => hk.2) (.slice Ao58 t234.length co58)) (fun _ hk => hk.2) (.slice (some ⟨go54, 0, none⟩) t237.length co62)) (fun _ hk => trivial), is66_, bs_, kp_⟩

end Go.Proofs.Ytbopiacjioedeaa.P
