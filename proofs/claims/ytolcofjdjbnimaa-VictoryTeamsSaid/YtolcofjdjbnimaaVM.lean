/- Chapter 33: a whole player, a whole entity, a whole event is read from a box, and written into it: once for all walks. -/
import Derived.Test.YtolcofjdjbnimaaVL
namespace Go.Proofs.Ytolcofjdjbnimaa.V
open Go.RowKit Go.Proofs.YtolcofjdjbnimaaW.PrintWords Go.Proofs.YtolcofjdjbnimaaW.PrintLast Go.Proofs.YtolcofjdjbnimaaW.PrintMore
set_option linter.unusedVariables false
set_option linter.unusedSimpArgs false

theorem load_P {a : Act} {o : Oper} {W : World} {g : Nat} {p : S52} (h : W.heap[g]? = some (.cells (pl p) 52 (0, 0))) (x : Operand) (ho : o.op = .load 52 x) (hx : a.eval x = .pointer (some ⟨g, 0, none⟩)) : (execOp a.eval o).run Try.prog W = .ok (.value (.agg (pl p))) W := by
  have hu := Try.underlying52
  obtain ⟨z0, z1, z2, z3, z4, z5⟩ := cells_P h
  clear h
  unfold execOp
  simp only [ho, hx]
  go_simp
set_option maxHeartbeats 4000000 in
theorem store_P {a : Act} {o : Oper} {W : World} {g : Nat} {p q : S52} (h : W.heap[g]? = some (.cells (pl p) 52 (0, 0))) (x v : Operand) (ho : o.op = .store 52 x v) (hx : a.eval x = .pointer (some ⟨g, 0, none⟩)) (hv : a.eval v = .agg (pl q)) :
    ∃ W1, (execOp a.eval o).run Try.prog W = .ok .skip W1 ∧ W1.heap[g]? = some (.cells (pl q) 52 (0, 0)) ∧ Put W W1 g := by
  have hu := Try.underlying52
  have hb := Aside0.mk h
  obtain ⟨z0, z1, z2, z3, z4, z5⟩ := cells_P h
  have hf := blk_frozen h
  clear h
  refine ⟨((((((W.setCell ⟨g, 0, none⟩ (.int .i64 q.f0)).setCell ⟨g, 1, none⟩ (.int .i64 q.f1)).setCell ⟨g, 2, none⟩ (.int .i64 q.f2)).setCell ⟨g, 3, none⟩ (.int .i64 q.f3)).setCell ⟨g, 4, none⟩ (.slice q.f4.a q.f4.n q.f4.c)).setCell ⟨g, 5, none⟩ (.bool q.f5)), ?_, ?_, ?_⟩
  · unfold execOp
    simp only [ho, hx, hv]
    first
      | (go_simp; done)
      | (go_simp; rfl)
  · refine (blk_set (blk_set (blk_set (blk_set (blk_set (blk_set hb.out _ _) _ _) _ _) _ _) _ _) _ _).trans ?_
    simp only [pl, List.setIfInBounds_toArray, List.set_cons_zero, List.set_cons_succ]
  · exact Put.set (Put.set (Put.set (Put.set (Put.set (Put.set (Put.refl W g) _ _) _ _) _ _) _ _) _ _) _ _
section
variable {ops : Array Oper} {rest : List Oper} {o : Oper} {a : Act} {Q : Exit → Act → World → Prop}
theorem load_P_event {W : World} {g : Nat} {p : S52} (hgd : o.guard = none) (x : Operand) (ho : o.op = .load 52 x) (hx : a.eval x = .pointer (some ⟨g, 0, none⟩)) (h : W.heap[g]? = some (.cells (pl p) 52 (0, 0))) (hk : wpList Try.prog ops Q rest (a.put o.dst (.agg (pl p))) W) : wpList Try.prog ops Q (o :: rest) a W :=
  Kd.event_run hgd (load_P h x ho hx) hk
theorem store_P_event {W : World} {g : Nat} {p q : S52} (hgd : o.guard = none) (x v : Operand) (ho : o.op = .store 52 x v) (hN : o.dst = none) (hx : a.eval x = .pointer (some ⟨g, 0, none⟩)) (hv : a.eval v = .agg (pl q)) (h : W.heap[g]? = some (.cells (pl p) 52 (0, 0)))
    (hk : ∀ W1, W1.heap[g]? = some (.cells (pl q) 52 (0, 0)) → Put W W1 g → wpList Try.prog ops Q rest a W1) : wpList Try.prog ops Q (o :: rest) a W := by
  obtain ⟨W1, h1, h2, h3⟩ := store_P h x v ho hx hv
  refine wpList_plain hgd fun K hK => ?_
  unfold Oper.wp
  rw [h1]
  show K (a.put o.dst undef) W1
  rw [hN]
  exact hK _ _ (hk W1 h2 h3)
end

theorem load_E {a : Act} {o : Oper} {W : World} {g : Nat} {p : S69} (h : W.heap[g]? = some (.cells (en p) 69 (0, 0))) (x : Operand) (ho : o.op = .load 69 x) (hx : a.eval x = .pointer (some ⟨g, 0, none⟩)) : (execOp a.eval o).run Try.prog W = .ok (.value (.agg (en p))) W := by
  have hu := Try.underlying69
  obtain ⟨z0, z1, z2, z3, z4, z5, z6, z7, z8, z9, z10, z11⟩ := cells_E h
  clear h
  unfold execOp
  simp only [ho, hx]
  go_simp
set_option maxHeartbeats 4000000 in
theorem store_E {a : Act} {o : Oper} {W : World} {g : Nat} {p q : S69} (h : W.heap[g]? = some (.cells (en p) 69 (0, 0))) (x v : Operand) (ho : o.op = .store 69 x v) (hx : a.eval x = .pointer (some ⟨g, 0, none⟩)) (hv : a.eval v = .agg (en q)) :
    ∃ W1, (execOp a.eval o).run Try.prog W = .ok .skip W1 ∧ W1.heap[g]? = some (.cells (en q) 69 (0, 0)) ∧ Put W W1 g := by
  have hu := Try.underlying69
  have hb := Aside0.mk h
  obtain ⟨z0, z1, z2, z3, z4, z5, z6, z7, z8, z9, z10, z11⟩ := cells_E h
  have hf := blk_frozen h
  clear h
  refine ⟨((((((((((((W.setCell ⟨g, 0, none⟩ (.int .i64 q.f0)).setCell ⟨g, 1, none⟩ (.int .i64 q.f1)).setCell ⟨g, 2, none⟩ (.string q.f2)).setCell ⟨g, 3, none⟩ (.int .i64 q.f3.f0)).setCell ⟨g, 4, none⟩ (.int .i64 q.f3.f1)).setCell ⟨g, 5, none⟩ (.int .i64 q.f4)).setCell ⟨g, 6, none⟩ (.int .i64 q.f5)).setCell ⟨g, 7, none⟩ (.int .i64 q.f6)).setCell ⟨g, 8, none⟩ (.int .i64 q.f7)).setCell ⟨g, 9, none⟩ (.int .i64 q.f8)).setCell ⟨g, 10, none⟩ (.slice q.f9.a q.f9.n q.f9.c)).setCell ⟨g, 11, none⟩ (.slice q.f10.a q.f10.n q.f10.c)), ?_, ?_, ?_⟩
  · unfold execOp
    simp only [ho, hx, hv]
    first
      | (go_simp; done)
      | (go_simp; rfl)
  · refine (blk_set (blk_set (blk_set (blk_set (blk_set (blk_set (blk_set (blk_set (blk_set (blk_set (blk_set (blk_set hb.out _ _) _ _) _ _) _ _) _ _) _ _) _ _) _ _) _ _) _ _) _ _) _ _).trans ?_
    simp only [en, List.setIfInBounds_toArray, List.set_cons_zero, List.set_cons_succ]
  · exact Put.set (Put.set (Put.set (Put.set (Put.set (Put.set (Put.set (Put.set (Put.set (Put.set (Put.set (Put.set (Put.refl W g) _ _) _ _) _ _) _ _) _ _) _ _) _ _) _ _) _ _) _ _) _ _) _ _
section
variable {ops : Array Oper} {rest : List Oper} {o : Oper} {a : Act} {Q : Exit → Act → World → Prop}
theorem load_E_event {W : World} {g : Nat} {p : S69} (hgd : o.guard = none) (x : Operand) (ho : o.op = .load 69 x) (hx : a.eval x = .pointer (some ⟨g, 0, none⟩)) (h : W.heap[g]? = some (.cells (en p) 69 (0, 0))) (hk : wpList Try.prog ops Q rest (a.put o.dst (.agg (en p))) W) : wpList Try.prog ops Q (o :: rest) a W :=
  Kd.event_run hgd (load_E h x ho hx) hk
theorem store_E_event {W : World} {g : Nat} {p q : S69} (hgd : o.guard = none) (x v : Operand) (ho : o.op = .store 69 x v) (hN : o.dst = none) (hx : a.eval x = .pointer (some ⟨g, 0, none⟩)) (hv : a.eval v = .agg (en q)) (h : W.heap[g]? = some (.cells (en p) 69 (0, 0)))
    (hk : ∀ W1, W1.heap[g]? = some (.cells (en q) 69 (0, 0)) → Put W W1 g → wpList Try.prog ops Q rest a W1) : wpList Try.prog ops Q (o :: rest) a W := by
  obtain ⟨W1, h1, h2, h3⟩ := store_E h x v ho hx hv
  refine wpList_plain hgd fun K hK => ?_
  unfold Oper.wp
  rw [h1]
  show K (a.put o.dst undef) W1
  rw [hN]
  exact hK _ _ (hk W1 h2 h3)
end

theorem at_load_P {a : Act} {o : Oper} {w W : World} {R : RS} {xs : List S52} (h : Rw k52 w R xs) (hb : Below w.heap.size w W) (i : Int) (h0 : 0 ≤ i) (h1 : i < R.n) (ad : Addr) (hR : R.a = some ad) (x : Operand) (ho : o.op = .load 52 x) (hx : a.eval x = .pointer (some (ad.add (i.toNat * 6)))) : (execOp a.eval o).run Try.prog W = .ok (.value (.agg (pl (rd_T52 xs i)))) W := by
  have hu := Try.underlying52
  obtain ⟨ad', e, z0, z1, z2, z3, z4, z5⟩ := at_P h hb i h0 h1
  rw [hR] at e
  cases e
  clear h hb
  unfold execOp
  simp only [ho, hx]
  go_simp
theorem at_load_E {a : Act} {o : Oper} {w W : World} {R : RS} {xs : List S69} (h : Rw k69 w R xs) (hb : Below w.heap.size w W) (i : Int) (h0 : 0 ≤ i) (h1 : i < R.n) (ad : Addr) (hR : R.a = some ad) (x : Operand) (ho : o.op = .load 69 x) (hx : a.eval x = .pointer (some (ad.add (i.toNat * 12)))) : (execOp a.eval o).run Try.prog W = .ok (.value (.agg (en (rd_T69 xs i)))) W := by
  have hu := Try.underlying69
  obtain ⟨ad', e, z0, z1, z2, z3, z4, z5, z6, z7, z8, z9, z10, z11⟩ := at_E h hb i h0 h1
  rw [hR] at e
  cases e
  clear h hb
  unfold execOp
  simp only [ho, hx]
  go_simp

end Go.Proofs.Ytolcofjdjbnimaa.V
