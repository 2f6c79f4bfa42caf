/- Drawing: what pick, of, one and l1Open answer. -/
import Derived.Test.YtbopiacjioedeaaEv
import Derived.Test.YtbopiacjioedeaaP3
import Derived.Laws.Bits64
set_option linter.unusedVariables false
set_option linter.unusedSimpArgs false
namespace Go.Proofs.Ytbopiacjioedeaa.P
open Go.RowKit Go.Proofs.YtbopiacjioedeaaW.PrintWords Go.Proofs.YtbopiacjioedeaaW.PrintLast Go.Proofs.YtbopiacjioedeaaW.PrintMore

/-- Drawn bytes. -/
def Bytes (l : List Int) : Prop := ∀ x ∈ l, 0 ≤ x ∧ x ≤ 255
theorem rd_byte {l : List Int} (h : Bytes l) (i : Int) : 0 ≤ rd l i ∧ rd l i ≤ 255 := by
  unfold rd
  rw [List.getD_eq_getElem?_getD]
  cases hx : l[i.toNat]? with
  | none => simp
  | some x => exact h x (List.mem_of_getElem? hx)
theorem xor_nonneg {a b : Int} (ha : 0 ≤ a) (ha2 : a ≤ 9223372036854775807) (hb : 0 ≤ b) (hb2 : b ≤ 9223372036854775807) : 0 ≤ bits .xor .i64 a b := by
  obtain ⟨m, rfl⟩ := Int.eq_ofNat_of_zero_le ha
  obtain ⟨n, rfl⟩ := Int.eq_ofNat_of_zero_le hb
  have h1 : (BitVec.ofInt 64 (m : Int)).toNat = m := by
    rw [BitVec.ofInt_natCast, BitVec.toNat_ofNat]; exact Nat.mod_eq_of_lt (by omega)
  have h2 : (BitVec.ofInt 64 (n : Int)).toNat = n := by
    rw [BitVec.ofInt_natCast, BitVec.toNat_ofNat]; exact Nat.mod_eq_of_lt (by omega)
  have hx : m ^^^ n < 2 ^ 63 := Nat.xor_lt_two_pow (by omega) (by omega)
  show 0 ≤ IntKind.i64.wrap ((BitVec.ofInt 64 (m : Int) ^^^ BitVec.ofInt 64 (n : Int)).toNat : Int)
  rw [BitVec.toNat_xor, h1, h2, IntKind.wrap_i64]
  omega
theorem tmod_in {a n : Int} (ha : 0 ≤ a) (hn : 0 < n) : 0 ≤ Int.tmod a n ∧ Int.tmod a n < n := ⟨Int.tmod_nonneg n ha, Int.tmod_lt_of_pos a hn⟩
theorem tdiv_in {a n : Int} (ha : 0 ≤ a) (hn : 0 < n) : 0 ≤ Int.tdiv a n ∧ Int.tdiv a n ≤ a := by
  rw [Int.tdiv_eq_ediv_of_nonneg ha]
  exact ⟨Int.ediv_nonneg ha (by omega), Int.ediv_le_self n ha⟩

theorem pick_ev {l : List Int} (hl : Bytes l) (hlen : l.length ≤ 2000) {p : Int} (n : Int) (hp : 0 ≤ p) (hp2 : p ≤ 1099511627776) :
    EvQ (fun k => spec_l1Rd_pick.f k l p n) (fun r => 0 ≤ r.1 ∧ (1 ≤ n → r.1 < n) ∧ r.2 = p + 1) := by
  unfold spec_l1Rd_pick.f
  simp only [w64 (n := p + 1) (by omega) (by omega)]
  refine EvQ.both (fun h => ?_) (fun h => ?_)
  · refine EvQ.succ (fun k => by rw [spec_l1Rd_pick.j0]) ?_
    exact EvQ.pos rfl (EvQ.pure ⟨Int.le_refl _, fun h1 => by omega, rfl⟩)
  · refine EvQ.succ (fun k => by rw [spec_l1Rd_pick.j0]) ?_
    refine EvQ.both (fun h0 => EvQ.pure ⟨Int.le_refl _, fun h1 => by omega, rfl⟩) (fun h0 => ?_)
    have hne : ((l.length : Int) == 0) = false := by simpa using h0
    have hpos : 0 < (l.length : Int) := by
      have : (l.length : Int) ≠ 0 := by intro e; rw [e] at hne; cases hne
      omega
    have e1 : wrap64 (p + 1 - 1) = p := by rw [w64 (by omega) (by omega)]; omega
    simp only [e1]
    refine EvQ.both (fun h1 => ?_) (fun h1 => ?_)
    · have hb := rd_byte hl p
      refine EvQ.pos hp (EvQ.neg (by omega) (EvQ.pure ⟨?_, fun h2 => ?_, rfl⟩))
      · rw [w64 (by omega) (by omega)]
        exact (tmod_in hb.1 (by omega)).1
      · rw [w64 (by omega) (by omega)]
        exact (tmod_in hb.1 (by omega)).2
    · have e2 : wrap64 (wrap64 (p * 7) + 3) = p * 7 + 3 := by rw [w64 (n := p * 7) (by omega) (by omega), w64 (by omega) (by omega)]
      have t1 := tmod_in (a := p) hp hpos
      have t2 := tmod_in (a := p * 7 + 3) (by omega) hpos
      have t3 := tdiv_in (a := p) hp hpos
      simp only [e2]
      have b1 := rd_byte hl (Int.tmod p l.length)
      have b2 := rd_byte hl (Int.tmod (p * 7 + 3) l.length)
      refine EvQ.neg (by omega) (EvQ.pos t1.1 (EvQ.pos t1.2 (EvQ.pos t2.1 (EvQ.pos t2.2 (EvQ.neg (by omega) (EvQ.pure ?_))))))
      generalize rd l (Int.tmod p l.length) = x1 at b1 ⊢
      generalize rd l (Int.tmod (p * 7 + 3) l.length) = x2 at b2 ⊢
      generalize Int.tdiv p l.length = x3 at t3 ⊢
      have e3 : wrap64 (wrap64 (wrap64 (wrap64 (wrap64 x1 * 131) + wrap64 (wrap64 x2 * 1117)) + wrap64 (p * 29)) + wrap64 (wrap64 x3 * 53)) = x1 * 131 + x2 * 1117 + p * 29 + x3 * 53 := by
        rw [w64 (n := x1) (by omega) (by omega), w64 (n := x2) (by omega) (by omega), w64 (n := x3) (by omega) (by omega), w64 (n := x1 * 131) (by omega) (by omega), w64 (n := x2 * 1117) (by omega) (by omega), w64 (n := p * 29) (by omega) (by omega), w64 (n := x3 * 53) (by omega) (by omega),
          w64 (n := x1 * 131 + x2 * 1117) (by omega) (by omega), w64 (n := x1 * 131 + x2 * 1117 + p * 29) (by omega) (by omega), w64 (by omega) (by omega)]
      simp only [e3]
      have t4 := tdiv_in (a := x1 * 131 + x2 * 1117 + p * 29 + x3 * 53) (n := 64) (by omega) (by omega)
      have hx : 0 ≤ bits .xor .i64 (x1 * 131 + x2 * 1117 + p * 29 + x3 * 53) (wrap64 (Int.tdiv (x1 * 131 + x2 * 1117 + p * 29 + x3 * 53) 64)) := by
        rw [w64 (n := Int.tdiv (x1 * 131 + x2 * 1117 + p * 29 + x3 * 53) 64) (by omega) (by omega)]
        exact xor_nonneg (by omega) (by omega) (by omega) (by omega)
      exact ⟨(tmod_in hx (by omega)).1, fun _ => (tmod_in hx (by omega)).2, by first | rfl | trivial⟩

/-- A state of drawing: how many numbers have been drawn. -/
def At (p q c : Int) : Prop := p ≤ q ∧ q ≤ p + c
theorem of_ev {l : List Int} (hl : Bytes l) (hlen : l.length ≤ 2000) {p : Int} (xs : List ByteArray) (hx : 0 < xs.length) (hp : 0 ≤ p) (hp2 : p ≤ 1099511627776) :
    EvQ (fun k => spec_l1Rd_of.f k l p xs) (fun r => r.1 ∈ xs ∧ r.2 = p + 1) := by
  unfold spec_l1Rd_of.f
  refine EvQ.bind (pick_ev hl hlen _ hp hp2) fun r hr => ?_
  have hlt := hr.2.1 (by omega)
  refine EvQ.pos hr.1 (EvQ.pos hlt (EvQ.pure ⟨?_, hr.2.2⟩))
  unfold rdOf
  have hn : r.1.toNat < xs.length := by omega
  simp [List.getD_eq_getElem?_getD, List.getElem?_eq_getElem hn]
end Go.Proofs.Ytbopiacjioedeaa.P
