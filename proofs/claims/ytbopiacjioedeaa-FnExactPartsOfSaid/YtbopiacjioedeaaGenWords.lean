/- Words beside the printed ones: make([]T, 0, n); a row that began as []byte(s) and is appended to. -/
import Derived.Test.YtbopiacjioedeaaWWords
import Derived.Test.YtbopiacjioedeaaWShare
import Derived.Test.YtbopiacjioedeaaWMore
import Derived.ArgAppend
import Derived.Lib.ConvBytes
import Derived.Deep.Upon
set_option linter.unusedVariables false
set_option linter.unusedSimpArgs false
namespace Go.Proofs.YtbopiacjioedeaaW.PrintWords
open Go.RowKit
section
variable {P : Program} {α : Type} {ops : Array Oper} {rest : List Oper} {o : Oper} {a : Act} {Q : Exit → Act → World → Prop}
/-- 'make([]T, 0, n)': an empty row of the call's own. -/
theorem Kd.R_make0 (d : Kd α) (zz : α) {w0 W : World} (base e : Nat) (hgd : o.guard = none) {N : Tmp} (_hd : o.dst = some N) (t : TypeId) (x y : Operand) (ho : o.op = .makeSlice t x y) (n : Int) (hx : a.eval x = .int .i64 0) (hy : a.eval y = .int .i64 n)
    (ht : P.underlying t = some (.slice e)) (z : Value) (bytes : Nat) (hinfo : (P.info? e).map (fun i => (i.zero, i.size, i.bytes)) = some (some z, d.sz, bytes)) (_hz : z.cells.size = d.sz) (_hs0 : 0 < d.sz) (hb0 : 0 < bytes)
    {ok : Nat → Prop} (hfresh : ok W.heap.size) (h0 : 0 ≤ n) (hl : n.toNat * bytes ≤ 281474976710656) (HB : Below base w0 W) (hbase : base ≤ W.heap.size)
    (h : ∀ v1 w1, d.R e w1 base ok v1 (List.replicate 0 zz) → Below base w0 w1 → W.grownBy w1 none → (∃ b, v1.ownBlock = some b ∧ W.heap.size ≤ b) → wpList P ops Q rest (a.put o.dst v1) w1) : wpList P ops Q (o :: rest) a W := by
  obtain ⟨m, rfl⟩ := Int.eq_ofNat_of_zero_le h0
  simp only [Int.toNat_natCast] at hl
  obtain ⟨i0, hi, hzz⟩ := Option.map_eq_some_iff.1 hinfo
  simp only [Prod.mk.injEq] at hzz
  obtain ⟨hz0, hz1, hz2⟩ := hzz
  have hm : m ≤ 281474976710656 := Nat.le_trans (Nat.le_mul_of_pos_right _ hb0) hl
  have hr := run_make (P := P) W t e i0 z ht hi hz0 .i64 .i64 0 (m : Int) (by omega) (by omega)
    (by
      have h3 : ((i0.bytes * m : Nat) : Int) ≤ 281474976710656 := by rw [hz2, Nat.mul_comm]; omega
      rwa [Int.natCast_mul] at h3) (by omega)
  simp only [Int.toNat_natCast, Int.toNat_zero] at hr
  rw [hz1] at hr
  refine event_run (v := .slice (some ⟨W.heap.size, 0, none⟩) 0 m) (w1 := W.alloc (.cells (madeCells z.cells (m * d.sz)) e)) hgd (by simp [execOp, ho, hx, hy, hr]) (h _ _ ⟨fun k hk => ?_, [], ?_, Reps.none _ _⟩ (HB.alloc hbase _) (World.grownBy_alloc W _ none) ⟨W.heap.size, by simp [Value.ownBlock], Nat.le_refl _⟩)
  · have : W.heap.size = k := by simpa [Value.ownBlock] using hk
    subst this
    exact hfresh
  · refine ⟨by simp, .inr ⟨W.heap.size, m, _, rfl, hbase, by simpa using heap_alloc_new W _, Nat.zero_le _, by simp [maxLen]; omega, by simp [size_madeCells], by simp⟩⟩
end

/-! ### A row that began as []byte(s): appended to, then only read -/
def GRow (e : Nat) (w : World) (base : Nat) (v : Value) (xs : List Value) : Prop :=
  ∃ g cap cur f0 f1, v = .slice (some ⟨g, 0, none⟩) xs.length cap ∧ base ≤ g ∧ w.heap[g]? = some (.cells cur e (f0, f1)) ∧ xs.length ≤ cap ∧ cap ≤ maxLen ∧ cur.size = cap ∧ (∀ j, j < cap → ¬ (f0 ≤ j ∧ j < f1)) ∧ cur.toList.take xs.length = xs

theorem GRow.of_heap {e : Nat} {w w1 : World} {base : Nat} {v : Value} {xs : List Value} (h : GRow e w base v xs) (hb : Below w.heap.size w w1) : GRow e w1 base v xs := by
  obtain ⟨g, cap, cur, f0, f1, h1, h2, h3, h4⟩ := h
  exact ⟨g, cap, cur, f0, f1, h1, h2, (hb.block g (blk_lt h3)).trans h3, h4⟩
theorem GRow.slice {e : Nat} {w : World} {base : Nat} {v : Value} {xs : List Value} (h : GRow e w base v xs) : ∃ A c, v = .slice A xs.length c ∧ xs.length ≤ c := by
  obtain ⟨g, cap, cur, f0, f1, h1, h2, h3, h4, _⟩ := h
  exact ⟨_, cap, h1, h4⟩
theorem GRow.bytes (w : World) (e : Nat) (s : ByteArray) (base : Nat) (hb : base ≤ w.heap.size) (hs : s.size ≤ 9223372036854775807) :
    GRow e (Lib.bytesWorld w e s) base (.slice (some ⟨w.heap.size, 0, none⟩) s.size (grownCap w s.size 0 e)) (nums .u8 (bytesOf s)) := by
  have hl : (nums .u8 (bytesOf s)).length = s.size := by rw [nums_length, bytesOf_length]
  have hge := grownCap_ge w s.size 0 e
  have hsz : (Lib.bytesCells w e s).size = grownCap w s.size 0 e := by
    have : s.data.size = s.size := rfl
    simp [Lib.bytesCells, this]
    omega
  refine ⟨w.heap.size, grownCap w s.size 0 e, Lib.bytesCells w e s, _, _, by rw [hl], hb, Lib.bytesWorld_at_new w e s, by rw [hl]; exact hge, grownCap_le_maxLen w s.size 0 e (by simpa [maxLen] using hs), hsz, fun j hj h => by omega, ?_⟩
  rw [hl]
  have hd : s.data.toList.length = s.size := data_length s
  simp only [Lib.bytesCells, Array.toList_append, Array.toList_map]
  rw [List.take_append_of_le_length (by simp [hd]), List.take_of_length_le (by simp [hd])]
  simp [nums, bytesOf]
theorem GRow.of_own {e : Nat} {w : World} {b base n : Nat} {v : Value} {xs : List Value} (h : w.ownsRow b e 1 v n xs) (hn : 0 < n) (hb : base ≤ b) : GRow e w base v xs := by
  obtain ⟨h1, h2⟩ := h
  simp only [Nat.mul_one] at h1
  rcases h2 with ⟨_, h0⟩ | ⟨g, cap, cur, h3, h4, h5, h6, h7, h8, h9⟩
  · omega
  · exact ⟨g, cap, cur, 0, 0, by rw [h3, h1], by omega, h5, by omega, h7, by simpa using h8, fun j _ h => by omega, by simpa [h1] using h9⟩
theorem GRow.cell {e : Nat} {w : World} {base : Nat} {A : Option Addr} {n c : Nat} {xs : List Value} (h : GRow e w base (.slice A n c) xs) (j : Nat) (hj : j < xs.length) : ∃ g, A = some ⟨g, 0, none⟩ ∧ w.cell? ⟨g, j, none⟩ = xs[j]? := by
  obtain ⟨g, cap, cur, f0, f1, h1, h2, h3, h4, h5, h6, h7, h8⟩ := h
  injection h1 with h1 _ _
  refine ⟨g, h1, ?_⟩
  have : w.cell? ⟨g, j, none⟩ = cur[j]? := by simp [World.cell?, h3]
  rw [this]
  have e1 : (cur.toList.take xs.length)[j]? = cur.toList[j]? := List.getElem?_take_of_lt hj
  rw [h8] at e1
  rw [e1]
  simp
theorem GRow.reads {w : World} {e base n : Nat} {A : Option Addr} {c : Nat} {xs : List Int} (h : GRow e w base (.slice A n c) (nums .u8 xs)) : n = xs.length ∧ n ≤ c ∧ Kd.C (Kd.int .u8) w A xs.length xs := by
  have h' := h
  obtain ⟨g, cap, cur, f0, f1, h1, h2, h3, h4, h5, _⟩ := h'
  injection h1 with h1 hn hc
  rw [nums_length] at hn h4
  refine ⟨hn, by omega, Kd.C_of_reads (d := (0 : Int)) (h1 := fun _ => rfl) ⟨rfl, by simp [maxLen] at h5; omega, fun _ => ⟨_, h1, fun j hj => ?_⟩⟩⟩
  obtain ⟨g', e', hc'⟩ := h.cell j (by rw [nums_length]; exact hj)
  rw [h1] at e'
  obtain rfl : g = g' := by simpa using e'
  rw [add_plain, hc']
  simp [nums, List.getD_eq_getElem?_getD, List.getElem?_eq_getElem hj]
section
variable {P : Program} {ops : Array Oper} {rest : List Oper} {o : Oper} {a : Act} {Q : Exit → Act → World → Prop}
/-- One element more. -/
theorem GRow.append {w : World} (hg : o.guard = none) {N : Tmp} (_hd : o.dst = some N) (s x : Operand) (t e : TypeId) (k : IntKind) (bytes : Nat)
    (ho : o.op = .call { callee := .builtin .append, args := #[s, x], argTypes := #[t, t] })
    (ht : P.underlying t = some (.slice e)) (hinfo : (P.info? e).map (fun i => (i.zero, i.size, i.bytes)) = some (some (.int k 0), 1, bytes)) (hb0 : 0 < bytes)
    (base : Nat) (v : Value) (xs : List Int) (hs : a.eval s = v) (HO : GRow e w base v (nums k xs)) (hbase : base ≤ w.heap.size)
    (ad : Addr) (y : Int) (c : Nat) (hx : a.eval x = .slice (some ad) 1 c) (hc : w.cell? (ad.add 0) = some (.int k y)) (hlim : (xs.length + 1) * bytes ≤ 140737488355328)
    (h : ∀ v' w', GRow e w' base v' (nums k (xs ++ [y])) → Below base w w' → w.heap.size ≤ w'.heap.size → wpList P ops Q rest (a.put o.dst v') w') : wpList P ops Q (o :: rest) a w := by
  obtain ⟨i0, hi, hzz⟩ := Option.map_eq_some_iff.1 hinfo
  simp only [Prod.mk.injEq] at hzz
  obtain ⟨hz0, hz1, hz2⟩ := hzz
  have hm : xs.length + 1 ≤ 140737488355328 := Nat.le_trans (Nat.le_mul_of_pos_right _ hb0) hlim
  have hcell := HO
  obtain ⟨g, cap, cur, f0, f1, hv, h2, h3, h4, h5, h6, h7, h8⟩ := HO
  rw [nums_length] at hv h4 h8
  subst hv
  refine wpList_append_arg w hg s x t ho e i0 (.int k 0) 1 bytes ht hi hz0 hz1 hz2 rfl (by omega) g 0 xs.length cap (nums k xs) hs (by simp [nums_length]) (fun j u hu => ?_) ad 1 c [.int k y] hx (by simp) (fun j u hu => ?_) (fun u hu => ?_) (fun hr j hj => ?_) (by simp [maxLen]; omega) hlim (fun hr => ?_) (fun _ v' w' ho' hgr => ?_)
  · obtain ⟨g', e', hc'⟩ := hcell.cell j (List.getElem?_eq_some_iff.1 hu).1
    obtain rfl : g = g' := by simpa using e'
    rw [Nat.zero_add, hc', hu]
  · match j, hu with
    | 0, hu => rw [hc]; simpa using hu
  · obtain rfl : u = .int k y := by simpa using hu
    rfl
  · obtain rfl : j = 0 := by simpa using hj
    have hlt : xs.length < cur.size := by omega
    refine ⟨by simp [World.cell?, h3, hlt], ?_⟩
    have := h7 xs.length (by omega)
    simp [World.frozen?, h3]
    omega
  · have hlt : xs.length < cur.size := by omega
    have hset : (w.setCells g (0 + xs.length * 1) [.int k y]) = w.setCell ⟨g, xs.length, none⟩ (.int k y) := by simp [World.setCells]
    rw [hset]
    refine h _ _ ⟨g, cap, cur.setIfInBounds xs.length (.int k y), f0, f1, by simp [nums_length], h2, ?_, by simp [nums_length]; omega, h5, by simp [h6], h7, ?_⟩ ((Below.refl base w).setCell h2 _) (by simp [World.setCell])
    · have hgl := blk_lt h3
      simp [World.setCell, Array.getElem?_modify, h3]
    · rw [nums_append, List.length_append, nums_length]
      simp only [Array.toList_setIfInBounds]
      have e1 : (cur.toList.set xs.length (.int k y)).take (xs.length + 1) = cur.toList.take xs.length ++ [.int k y] := by
        rw [List.take_succ_eq_append_getElem (by simpa using hlt), List.getElem_set_self]
        rw [List.take_set_of_le (Nat.le_refl _)]
      simp only [nums, List.map_cons, List.map_nil, List.length_singleton] at *
      rw [e1, h8]
  · have e1 : nums k xs ++ [.int k y] = nums k (xs ++ [y]) := by simp [nums]
    rw [e1] at ho'
    exact h v' w' (GRow.of_own ho' (by omega) hbase) ((Below.refl base w).grown hgr hbase (fun _ h => by cases h)) hgr.size
end
end Go.Proofs.YtbopiacjioedeaaW.PrintWords
