/- slices.Sort and slices.Compact at []string, by the shelf's contracts, in the printed contracts' form: a list of the caller's own, turned where it lies. -/
import Derived.Test.YtbopiacjioedeaaTab
import Derived.Test.YtbopiacjioedeaaShelf
import Derived.Test.YtbopiacjioedeaaWKept
set_option linter.unusedVariables false
namespace Go.Proofs.Ytbopiacjioedeaa.P
open Go.RowKit Go.Sort Go.Proofs.YtbopiacjioedeaaW.PrintWords Go.Proofs.YtbopiacjioedeaaW.PrintLast Go.Proofs.YtbopiacjioedeaaW.PrintMore

def chars (b : ByteArray) : List UInt8 := b.data.toList
def text (l : List UInt8) : ByteArray := ⟨l.toArray⟩
theorem text_chars (b : ByteArray) : text (chars b) = b := rfl
theorem chars_text (l : List UInt8) : chars (text l) = l := rfl
theorem enc_chars (l : List ByteArray) : (l.map chars).map encStr = encs Value.string l := by
  unfold encs
  rw [List.map_map]
  rfl

/-- A row of texts, written over by others: what is left of it. -/
theorem row_put {w : World} {base e g n cap q : Nat} {l : List ByteArray} {os : Array Obj} (d : List (List UInt8)) (h : w.ownsRow base e 1 (.slice (some ⟨g, 0, none⟩) n cap) n (encs Value.string l)) (hn : l.length = n) (hd : d.length = n) :
    (grow (putRow encStr (Sort.ahead w q) g 0 d.toArray) os).heap.size = w.heap.size + os.size ∧ (∀ k, k < w.heap.size → k ≠ g → (grow (putRow encStr (Sort.ahead w q) g 0 d.toArray) os).heap[k]? = w.heap[k]?) ∧
      base ≤ g ∧ g < w.heap.size ∧ n ≤ cap ∧ ∀ m, m ≤ n → (grow (putRow encStr (Sort.ahead w q) g 0 d.toArray) os).ownsRow base e 1 (.slice (some ⟨g, 0, none⟩) m cap) m ((d.take m).map encStr) := by
  obtain ⟨hl, h2⟩ := h
  rcases h2 with ⟨h2, _⟩ | ⟨g', cap', cur, h2, hb, hh, hc, hm, hs, ht⟩
  · cases h2
  · injection h2 with h3 h4 h5
    injection h3 with h3
    injection h3 with h3
    subst h3 h5
    have hg : g < w.heap.size := (Array.getElem?_eq_some_iff.1 hh).1
    have hp : (grow (putRow encStr (Sort.ahead w q) g 0 d.toArray) os).heap[g]? = some (.cells (putCells encStr 0 d.toArray cur) e (0, 0)) := by
      show ((Sort.ahead w q).heap.modify g (onCells (putCells encStr 0 d.toArray)) ++ os)[g]? = _
      rw [Array.getElem?_append_left (by simpa using hg), Array.getElem?_modify, if_pos rfl, Sort.heap_ahead, hh]
      rfl
    refine ⟨by simp, fun k hk hkg => ?_, hb, hg, hc, fun m hmn => ⟨by simp; omega, .inr ⟨g, cap, _, rfl, hb, hp, by omega, hm, by simpa [putCells] using hs, ?_⟩⟩⟩
    · show ((Sort.ahead w q).heap.modify g (onCells (putCells encStr 0 d.toArray)) ++ os)[k]? = _
      rw [Array.getElem?_append_left (by simpa using hk), Array.getElem?_modify, if_neg (fun x => hkg x.symm)]
      rfl
    · apply List.ext_getElem?
      intro i
      rw [Nat.mul_one, List.getElem?_take]
      by_cases hi : i < m
      · have hic : i < cur.size := by omega
        rw [if_pos hi, List.getElem?_map, List.getElem?_take, if_pos hi, Array.getElem?_toList]
        simp only [putCells, Array.getElem?_mapIdx, Array.getElem?_eq_getElem hic, Option.map_some]
        rw [if_pos ⟨Nat.zero_le _, by simp; omega⟩, List.getElem?_eq_getElem (by omega : i < d.length), Option.map_some]
        simp [getElem!_pos, show i < d.length by omega]
      · rw [if_neg hi, List.getElem?_eq_none (by simp; omega)]

theorem holds_row {w : World} {base e g n cap : Nat} {l : List ByteArray} (h : w.ownsRow base e 1 (.slice (some ⟨g, 0, none⟩) n cap) n (encs Value.string l)) (hn : l.length = n) : Holds encStr w g 0 (l.map chars).toArray := by
  intro j hj
  have hj' : j < l.length := by simpa using hj
  obtain ⟨h1, h2⟩ := own_at_of (d := ByteArray.empty) (by subst hn; exact h) (j : Int) (by omega) (by omega)
  have e1 : (j : Int).toNat = j := rfl
  rw [e1] at h1 h2
  refine ⟨by rw [Nat.zero_add, h1]; simp [rdOf, hj', chars], by rw [Nat.zero_add]; exact h2⟩

/-- What slices.Sort leaves. -/
def sortedT (l0 : List ByteArray) : List ByteArray := ((l0.map chars).mergeSort fun x y => decide (x ≤ y)).map text
theorem sortedT_length (l0 : List ByteArray) : (sortedT l0).length = l0.length := by simp [sortedT]
def slices_Sort_string_string.f (l0 : List ByteArray) : Option (List ByteArray) := if l0.length < 4611686018427387904 then some (sortedT l0) else none
theorem slices_Sort_string_string.calls (P0_ : Nat → Prop) (u9000_ : Value) (l0 : List ByteArray) (r : List ByteArray) (w0 w : World) (hB : Below w0.heap.size w0 w) (ho0 : Kd.R Kd.string 9 w w0.heap.size P0_ u9000_ l0) (h : slices_Sort_string_string.f l0 = some r) :
    Calls Try.prog 71 #[u9000_] w fun e w' => e = .returned (.tuple #[]) ∧ Kd.R Kd.string 9 w' w0.heap.size (fun k_ => (P0_ k_ ∨ w.heap.size ≤ k_)) u9000_ r ∧ Below w0.heap.size w0 w' ∧ Kept w w' (fun k_ => P0_ k_) := by
  unfold slices_Sort_string_string.f at h
  split at h
  · rename_i hl
    obtain rfl := Option.some.inj h
    have ho := Kd.own_of_R ho0
    have hok := ho0.1
    rcases ho.2 with ⟨h2, h3⟩ | ⟨g, cap, cur, h2, _⟩
    · subst h2
      obtain rfl : l0 = [] := List.eq_nil_of_length_eq_zero h3
      refine (Try.slices_Sort_string_none none 0 w).mono ?_
      rintro e w' ⟨rfl, rfl⟩
      rw [show sortedT ([] : List ByteArray) = [] by simp [sortedT]]
      exact ⟨rfl, Kd.R_nil _ _ _ _ _, hB, Kept.refl _ _⟩
    · subst h2
      have hr := Kd.R_reads' ho0
      refine (by have := Try.slices_Sort_string g 0 cap (l0.map chars) w (holds_row ho rfl) (row_put (q := 0) (os := #[]) (l0.map chars) ho rfl (by simp)).2.2.2.1 (by simpa using hl); simpa using this : Calls Try.prog 71 #[.slice (some ⟨g, 0, none⟩) l0.length cap] w _).mono ?_
      rintro e w' ⟨rfl, n, os, rfl⟩
      have hd : ((l0.map chars).mergeSort fun x y => decide (x ≤ y)).length = l0.length := by simp
      obtain ⟨h1, h2, h3, h4, h5, h6⟩ := row_put (q := n) (os := os) ((l0.map chars).mergeSort fun x y => decide (x ≤ y)) ho rfl hd
      have hP : P0_ g := hok g rfl
      have h7 := h6 l0.length (Nat.le_refl _)
      rw [← hd, List.take_length, hd, show ((l0.map chars).mergeSort fun x y => decide (x ≤ y)).map encStr = encs Value.string (sortedT l0) by unfold encs sortedT; rw [List.map_map]; rfl] at h7
      refine ⟨rfl, Kd.R_of_own (enc := Value.string) (h1 := fun _ => rfl) (by rw [sortedT_length]; exact h7) (fun k hk => .inl (by simp [Value.ownBlock] at hk; exact hk ▸ hP)), ⟨hB.os, hB.tape, hB.output, by have := hB.size; omega, fun k hk => ?_⟩, ⟨by omega, fun k hk hn => h2 k hk (fun e => hn (e ▸ hP))⟩⟩
      exact (h2 k (Nat.lt_of_lt_of_le hk hB.size) (by omega)).trans (hB.block k hk)
  · cases h

/-- What slices.Compact hands back. -/
def compactT (l0 : List ByteArray) : List ByteArray := (Lib.compact (l0.map chars)).map text
theorem compact_le (l : List (List UInt8)) : (Lib.compact l).length ≤ l.length := by
  unfold Lib.compact Lib.compactUpTo
  rw [List.length_map]
  exact Nat.le_trans (List.length_filter_le _ _) (by simp)
def slices_Compact_string_string.f (l0 : List ByteArray) : Option (List ByteArray) := if l0.length < 4611686018427387904 then some (compactT l0) else none
theorem slices_Compact_string_string.calls (P0_ : Nat → Prop) (u9000_ : Value) (l0 : List ByteArray) (r : List ByteArray) (w0 w : World) (hB : Below w0.heap.size w0 w) (ho0 : Kd.R Kd.string 9 w w0.heap.size P0_ u9000_ l0) (h : slices_Compact_string_string.f l0 = some r) :
    Calls Try.prog 72 #[u9000_] w fun e w' => ∃ v0_ : Value, e = .returned (v0_) ∧ Kd.R Kd.string 9 w' w0.heap.size (fun k_ => (P0_ k_ ∨ w.heap.size ≤ k_)) v0_ r ∧ Below w0.heap.size w0 w' ∧ Kept w w' (fun k_ => P0_ k_) := by
  unfold slices_Compact_string_string.f at h
  split at h
  · rename_i hl
    obtain rfl := Option.some.inj h
    have ho := Kd.own_of_R ho0
    have hok := ho0.1
    rcases ho.2 with ⟨h2, h3⟩ | ⟨g, cap, cur, h2, _⟩
    · subst h2
      obtain rfl : l0 = [] := List.eq_nil_of_length_eq_zero h3
      refine (Try.slices_Compact_string_empty none 0 w).mono ?_
      rintro e w' ⟨rfl, rfl⟩
      exact ⟨_, rfl, Kd.R_nil _ _ _ _ _, hB, Kept.refl _ _⟩
    · subst h2
      have hx := row_put (q := 0) (os := #[]) (l0.map chars) ho rfl (by simp)
      refine (by have := Try.slices_Compact_string g 0 cap (l0.map chars) w (holds_row ho rfl) (by simp; omega) (by simpa using hx.2.2.2.2.1); simpa using this : Calls Try.prog 72 #[.slice (some ⟨g, 0, none⟩) l0.length cap] w _).mono ?_
      rintro e w' ⟨rfl, n, rfl⟩
      have hle := compact_le (l0.map chars)
      rw [List.length_map] at hle
      have hd : (Lib.compact (l0.map chars) ++ List.replicate (l0.length - (Lib.compact (l0.map chars)).length) []).length = l0.length := by simp; omega
      obtain ⟨h1, h2, h3, h4, h5, h6⟩ := row_put (q := n) (os := #[]) _ ho rfl hd
      rw [grow_empty] at h1 h2 h6
      have hP : P0_ g := hok g rfl
      have h7 := h6 (Lib.compact (l0.map chars)).length hle
      rw [List.take_left, show (Lib.compact (l0.map chars)).map encStr = encs Value.string (compactT l0) by unfold encs compactT; rw [List.map_map]; rfl] at h7
      have hcl : (compactT l0).length = (Lib.compact (l0.map chars)).length := by simp [compactT]
      refine ⟨_, rfl, Kd.R_of_own (enc := Value.string) (h1 := fun _ => rfl) (by rw [hcl]; exact h7) (fun k hk => .inl (by simp [Value.ownBlock] at hk; exact hk ▸ hP)), ⟨hB.os, hB.tape, hB.output, by have := hB.size; omega, fun k hk => ?_⟩, ⟨by omega, fun k hk hn => h2 k hk (fun e => hn (e ▸ hP))⟩⟩
      exact (h2 k (Nat.lt_of_lt_of_le hk hB.size) (by omega)).trans (hB.block k hk)
  · cases h
end Go.Proofs.Ytbopiacjioedeaa.P
