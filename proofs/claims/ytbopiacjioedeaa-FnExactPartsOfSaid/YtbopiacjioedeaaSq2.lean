/- Short names for scripts that the printed walks repeat: each is run where it is used, on the facts that stand there. -/
import Derived.Test.YtbopiacjioedeaaP0
import Derived.Test.YtbopiacjioedeaaSq
set_option linter.unusedVariables false
set_option autoImplicit false
namespace Go.Proofs.Ytbopiacjioedeaa.P
open Go.RowKit Go.Proofs.YtbopiacjioedeaaW.PrintWords Go.Proofs.YtbopiacjioedeaaW.PrintLast Go.Proofs.YtbopiacjioedeaaW.PrintMore

theorem kz_ {p : Prop} (h : p := by (with_reducible repeat (first | apply Kd.R_alloc | apply Kd.R_drewN | apply Kd.R_drew | apply Kd.S_alloc | apply Kd.S_drewN | apply Kd.S_drew)); exact Aside0.out (by assumption)) : p := h
theorem kp_ {p : Prop} (h : p := by repeat (first | (with_reducible first | exact HK.out | apply KeepBut.set_ | apply keep_drewN | apply keep_drew | apply keep_alloc | refine keep_far (w := w) ?_ (Aside0.out (by assumption)) _) | exact HK.out)) : p := h
theorem bs_ {p : Prop} (h : p := by repeat (first | (with_reducible first | exact HB.out | apply below_alloc | apply pw_below_drewN | apply below_drew1 | refine below_set ?_ (Aside0.out (by assumption)) | refine below_set ?_ (Nat.le_trans HL.out (Aside0.out (by assumption)))) | exact HB.out)) : p := h
theorem dr_ {p : Prop} (h : p := by repeat (first | exact Drawn0.refl _ | apply Drawn0.step)) : p := h
theorem ks_ {p : Prop} (h : p := by exact keep_size (w := w) (g := g) (row := none) kp_) : p := h
theorem bq_ {p : Prop} (h : p := by repeat' (first | (with_reducible first | exact Aside0.out (by assumption) | apply blk_drewN | apply blk_drew | apply blk_alloc | apply blk_far (hp := Aside0.out (by assumption)) | apply blk_put) | rfl)) : p := h
theorem cr_ {α : Type} {d : Kd α} {e base : Nat} {ok : Nat → Prop} {A : Option Addr} {n c : Nat} {xs : List α} {w w' : World} (_ : Aside0 (Kd.R d e w base ok (.slice A n c) xs))
    (h : Kd.C d w' A xs.length xs := by repeat (first | exact (Kd.R_reads' (Aside0.out (by assumption))).2.2 | (with_reducible refine Kd.C_alloc ?_ _) | (with_reducible refine Kd.C_drewN ?_ _) | (with_reducible refine Kd.C_drew ?_))) : Kd.C d w' A xs.length xs := h
theorem cb_ {α : Type} {d : Kd α} {A : Option Addr} {n : Nat} {xs : List α} {w w' : World} (_ : Aside0 (Kd.C d w A n xs))
    (h : Kd.C d w' A n xs := by repeat (first | exact (Kd.C_below (Aside0.out (by assumption)) HB.out) | (with_reducible refine Kd.C_alloc ?_ _) | (with_reducible refine Kd.C_drewN ?_ _) | (with_reducible refine Kd.C_drew ?_))) : Kd.C d w' A n xs := h
theorem gs_ {w W : World} {g : Nat} (hg : g = W.heap.size) (h : Below w.heap.size w W := by exact bl_) : w.heap.size ≤ g := by rw [hg]; exact below_size h
theorem gk_ {w W : World} {g g0 : Nat} (hg : g = W.heap.size) (h : KeepBut w W g0 none := by exact kp_) : w.heap.size ≤ g := by rw [hg]; exact keep_size h
theorem hc_ {w W : World} {a : Addr} {v : Value} (hb : Aside0 (Below w.heap.size w W)) (hx : w.cell? a = some v) : W.cell? a = some v := (hb.out.cell (World.block_lt_of_cell? w _ hx)).trans hx
theorem ry_ {p : Prop} (h : p := by first | (rw [hy_]; with_reducible exact H) | (have H2_ := (Option.bind_some _ _).symm.trans H; rw [hy_]; with_reducible exact H2_) | (have H2_ := (Option.bind_some _ _).symm.trans H; with_reducible exact H2_) | with_reducible exact H | (rw [hy_]; exact H) | exact H) : p := h
theorem mn_ {p : Prop} (h : p := by
  repeat' first
  | (with_reducible exact LeO.refl _)
  | (with_reducible exact LeO.none _)
  | (with_reducible refine LeO.ite ?_ ?_)
  | (with_reducible refine LeO.bind ?_ (fun _ => ?_))
  | (with_reducible apply_assumption)
  | exact LeO.none _
  | refine LeO.ite ?_ ?_
  | refine LeO.bind ?_ (fun _ => ?_)
  | apply_assumption) : p := h


/-- What a block's cells hold. -/
theorem bc0_ {w : World} {g : Nat} {t : TypeId} {v0 : Value} {l : List Value} (h : Aside0 (w.heap[g]? = some (.cells (v0 :: l).toArray t (0, 0)))) : w.cell? ⟨g, 0, none⟩ = some v0 := (blk_cell h.out 0).trans (by simp)
theorem bc1_ {w : World} {g : Nat} {t : TypeId} {v0 v1 : Value} {l : List Value} (h : Aside0 (w.heap[g]? = some (.cells (v0 :: v1 :: l).toArray t (0, 0)))) : w.cell? ⟨g, 1, none⟩ = some v1 := (blk_cell h.out 1).trans (by simp)
theorem bc2_ {w : World} {g : Nat} {t : TypeId} {v0 v1 v2 : Value} {l : List Value} (h : Aside0 (w.heap[g]? = some (.cells (v0 :: v1 :: v2 :: l).toArray t (0, 0)))) : w.cell? ⟨g, 2, none⟩ = some v2 := (blk_cell h.out 2).trans (by simp)
theorem bc3_ {w : World} {g : Nat} {t : TypeId} {v0 v1 v2 v3 : Value} {l : List Value} (h : Aside0 (w.heap[g]? = some (.cells (v0 :: v1 :: v2 :: v3 :: l).toArray t (0, 0)))) : w.cell? ⟨g, 3, none⟩ = some v3 := (blk_cell h.out 3).trans (by simp)
theorem bc4_ {w : World} {g : Nat} {t : TypeId} {v0 v1 v2 v3 v4 : Value} {l : List Value} (h : Aside0 (w.heap[g]? = some (.cells (v0 :: v1 :: v2 :: v3 :: v4 :: l).toArray t (0, 0)))) : w.cell? ⟨g, 4, none⟩ = some v4 := (blk_cell h.out 4).trans (by simp)
theorem bc5_ {w : World} {g : Nat} {t : TypeId} {v0 v1 v2 v3 v4 v5 : Value} {l : List Value} (h : Aside0 (w.heap[g]? = some (.cells (v0 :: v1 :: v2 :: v3 :: v4 :: v5 :: l).toArray t (0, 0)))) : w.cell? ⟨g, 5, none⟩ = some v5 := (blk_cell h.out 5).trans (by simp)

/-! Branches of the answer. -/
section
variable {α : Type} {c : Prop} [Decidable c] {a b : Option α} {r : α}
theorem itcc_ (H : (if c then a else b) = some r) : (c ∧ a = some r) ∨ (¬ c ∧ b = some r) := by by_cases h : c <;> simp_all
theorem itcd_ (H : (if c then a else b) = some r) : (c ∧ a = some r) ∨ (decide c = false ∧ b = some r) := by by_cases h : c <;> simp_all
theorem itdc_ (H : (if c then a else b) = some r) : (decide c = true ∧ a = some r) ∨ (¬ c ∧ b = some r) := by by_cases h : c <;> simp_all
theorem itdd_ (H : (if c then a else b) = some r) : (decide c = true ∧ a = some r) ∨ (decide c = false ∧ b = some r) := by by_cases h : c <;> simp_all
theorem iucc_ (H : (if c then a else b) = some r) : (¬ c ∧ b = some r) ∨ (c ∧ a = some r) := (itcc_ H).symm
theorem iucd_ (H : (if c then a else b) = some r) : (decide c = false ∧ b = some r) ∨ (c ∧ a = some r) := (itcd_ H).symm
theorem iudc_ (H : (if c then a else b) = some r) : (¬ c ∧ b = some r) ∨ (decide c = true ∧ a = some r) := (itdc_ H).symm
theorem iudd_ (H : (if c then a else b) = some r) : (decide c = false ∧ b = some r) ∨ (decide c = true ∧ a = some r) := (itdd_ H).symm
theorem inc_ (H : (if c then a else none) = some r) : c ∧ a = some r := by by_cases h : c <;> simp_all
theorem ind_ (H : (if c then a else none) = some r) : decide c = true ∧ a = some r := by by_cases h : c <;> simp_all
theorem ioc_ (H : (if c then none else b) = some r) : ¬ c ∧ b = some r := by by_cases h : c <;> simp_all
theorem iod_ (H : (if c then none else b) = some r) : decide c = false ∧ b = some r := by by_cases h : c <;> simp_all
theorem itb_ {t : Bool} (H : (if t = true then a else b) = some r) : (t = true ∧ a = some r) ∨ (t = false ∧ b = some r) := by cases t <;> simp_all
theorem iub_ {t : Bool} (H : (if t = true then a else b) = some r) : (t = false ∧ b = some r) ∨ (t = true ∧ a = some r) := (itb_ H).symm
theorem iob_ {t : Bool} (H : (if t = true then none else b) = some r) : t = false ∧ b = some r := by cases t <;> simp_all
end
section
variable {P : Program} {ops : Array Oper} {rest : List Oper} {o oi : Oper} {a : Act} {Q : Exit → Act → World → Prop} {α : Type}
/-- A call. -/
theorem gl_ {w : World} {f : FuncId} {fn : Func} {ag : Array Operand} {ts : Array TypeId} (N : Nat) (hf : P.funcs[f]? = some fn) (args : Array Value)
    (h : Calls P f args w fun e w' => ∃ v, e = .returned v ∧ wpList P ops Q rest (a.put (some N) v) w')
    (hd : oi.dst = some N := by rfl) (hg : oi.guard = none := by rfl) (hname : (fn.name == "runtime.NumGoroutine") = false := by kernel_rfl) (hb : fn.body.isSome = true := by rfl)
    (hop : oi.op = .call { callee := .value (.func f), args := ag, argTypes := ts } := by rfl)
    (hargs : ag.map a.eval = args := by (try simp only [List.map_toArray, List.map_cons, List.map_nil]); first | done | rfl | (simp only [List.length_drop, List.length_take]; rfl)) : wpList P ops Q (oi :: rest) a w :=
  goesL_ (some N) hd hg hf hname hb args hop hargs h
/-- A box. -/
theorem be_ {W : World} (N : Tmp) (t : TypeId) (cs : Array Value)
    (h : ∀ g, g = W.heap.size → ∀ w1, w1.heap[g]? = some (.cells cs t (0, 0)) → Below W.heap.size W w1 → wpList P ops Q rest (a.put o.dst (.pointer (some ⟨g, 0, none⟩))) w1)
    (hgd : o.guard = none := by rfl) (_hd : o.dst = some N := by rfl)
    (hrun : (execOp a.eval o).run P W = .ok (.value (.pointer (some ⟨W.heap.size, 0, none⟩))) (W.alloc (.cells cs t (0, 0))) := by first | (go_simp; done) | (go_simp; rfl)) : wpList P ops Q (o :: rest) a W :=
  box_event hgd _hd hrun h
/-- A literal list. -/
theorem rl_ {W : World} (d : Kd α) (e : Nat) (N : Tmp) (xs : List α) (inner : List Value)
    (h : ∀ v1 w1, d.R e w1 W.heap.size (fun _ => True) v1 xs → Below W.heap.size W w1 → W.grownBy w1 none → (∃ b, v1.ownBlock = some b ∧ W.heap.size ≤ b) → wpList P ops Q rest (a.put o.dst v1) w1)
    (hgd : o.guard = none := by rfl) (_hd : o.dst = some N := by rfl)
    (hrun : (execOp a.eval o).run P W = .ok (.value (.slice (some ⟨W.heap.size, 0, none⟩) xs.length xs.length)) (W.alloc (.cells inner.toArray e)) := by first | (go_simp; done) | (go_simp; rfl))
    (hrep : Reps (d.M W W.heap.size (fun _ => True)) d.sz xs inner := by repeat (first | exact Reps.none _ _ | refine Reps.one rfl ?_))
    (hm : xs.length ≤ 9223372036854775807 := by simp) : wpList P ops Q (o :: rest) a W :=
  Kd.R_lit d W.heap.size e hgd _hd (ok := fun _ => True) (okp := fun _ => True) hrun hrep (fun _ hk => hk) trivial (Below.refl _ _) (Nat.le_refl _) hm h
theorem sl_ {W : World} (d : Kd α) (e : Nat) (N : Tmp) (xs : List α) (inner : List Value)
    (h : ∀ v1 w1, Kd.S d e w1 W.heap.size (fun _ => True) v1 xs → Below W.heap.size W w1 → W.grownBy w1 none → (∃ b, v1.ownBlock = some b ∧ W.heap.size ≤ b) → wpList P ops Q rest (a.put o.dst v1) w1)
    (hgd : o.guard = none := by rfl) (_hd : o.dst = some N := by rfl)
    (hrun : (execOp a.eval o).run P W = .ok (.value (.slice (some ⟨W.heap.size, 0, none⟩) xs.length xs.length)) (W.alloc (.cells inner.toArray e)) := by first | (go_simp; done) | (go_simp; rfl))
    (hrep : Reps (d.M W W.heap.size (fun _ => False)) d.sz xs inner := by repeat (first | exact Reps.none _ _ | refine Reps.one rfl ?_))
    (hm : xs.length ≤ 9223372036854775807 := by simp) : wpList P ops Q (o :: rest) a W :=
  Kd.S_lit d W.heap.size e hgd _hd (ok := fun _ => True) (okp := fun _ => True) hrun hrep (fun _ hk => hk) trivial (Below.refl _ _) (Nat.le_refl _) hm h
end
end Go.Proofs.Ytbopiacjioedeaa.P
