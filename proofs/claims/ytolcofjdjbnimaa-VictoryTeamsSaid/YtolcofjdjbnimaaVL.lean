/- Chapter 33: a whole game is read from its box, and written into it: once for all walks. -/
import Derived.Test.YtolcofjdjbnimaaV1
namespace Go.Proofs.Ytolcofjdjbnimaa.V
open Go.RowKit Go.Proofs.YtolcofjdjbnimaaW.PrintWords Go.Proofs.YtolcofjdjbnimaaW.PrintLast Go.Proofs.YtolcofjdjbnimaaW.PrintMore
set_option linter.unusedVariables false
set_option linter.unusedSimpArgs false
theorem load_G {a : Act} {o : Oper} {W : World} {g : Nat} {b : B} {win : Int} {P U : RS} (h : W.heap[g]? = some (.cells (gm b win P U) 37 (0, 0))) (x : Operand) (ho : o.op = .load 37 x) (hx : a.eval x = .pointer (some ⟨g, 0, none⟩)) : (execOp a.eval o).run Try.prog W = .ok (.value (.agg (gm b win P U))) W := by
  have hu37 := Try.underlying37
  obtain ⟨z0, z1, z2, z3, z4, z5, z6, z7, z8, z9, z10, z11, z12, z13, z14, z15⟩ := cells_G h
  clear h
  unfold execOp
  simp only [ho, hx]
  go_simp
/-- One block is written, all else stays. -/
structure Put (W W1 : World) (g : Nat) : Prop where
  size : W1.heap.size = W.heap.size
  same : ∀ i, i ≠ g → W1.heap[i]? = W.heap[i]?
  os : W1.os = W.os
  tape : W1.tape = W.tape
  output : W1.output = W.output
theorem Put.refl (W : World) (g : Nat) : Put W W g := ⟨rfl, fun _ _ => rfl, rfl, rfl, rfl⟩
theorem Put.set {W W1 : World} {g : Nat} (h : Put W W1 g) (i : Nat) (v : Value) : Put W (W1.setCell ⟨g, i, none⟩ v) g := by
  refine ⟨by simpa [World.setCell] using h.size, fun k hk => ?_, h.os, h.tape, h.output⟩
  rw [← h.same k hk]
  exact Below.heap_setCell W1 ⟨g, i, none⟩ v k (by exact hk)
theorem Put.below {w W W1 : World} {g : Nat} (h : Put W W1 g) (hb : Below w.heap.size w W) (hg : w.heap.size ≤ g) : Below w.heap.size w W1 :=
  ⟨h.os.trans hb.os, h.tape.trans hb.tape, h.output.trans hb.output, by rw [h.size]; exact hb.size, fun k hk => (h.same k (by omega)).trans (hb.block k hk)⟩
theorem Put.blk {W W1 : World} {g k : Nat} {o : Obj} (h : Put W W1 g) (hk : W.heap[k]? = some o) (hne : k ≠ g) : W1.heap[k]? = some o := (h.same k hne).trans hk
set_option maxHeartbeats 4000000 in
theorem store_G {a : Act} {o : Oper} {W : World} {g : Nat} {b b' : B} {win win' : Int} {P U P' U' : RS} (h : W.heap[g]? = some (.cells (gm b win P U) 37 (0, 0))) (x v : Operand) (ho : o.op = .store 37 x v) (hx : a.eval x = .pointer (some ⟨g, 0, none⟩)) (hv : a.eval v = .agg (gm b' win' P' U')) :
    ∃ W1, (execOp a.eval o).run Try.prog W = .ok .skip W1 ∧ W1.heap[g]? = some (.cells (gm b' win' P' U') 37 (0, 0)) ∧ Put W W1 g := by
  have hu37 := Try.underlying37
  have hb := Aside0.mk h
  obtain ⟨z0, z1, z2, z3, z4, z5, z6, z7, z8, z9, z10, z11, z12, z13, z14, z15⟩ := cells_G h
  have hf := blk_frozen h
  clear h
  refine ⟨((((((((((((((((W.setCell ⟨g, 0, none⟩ (.int .i64 b'.t)).setCell ⟨g, 1, none⟩ (.int .i64 b'.n)).setCell ⟨g, 2, none⟩ (.int .i64 win')).setCell ⟨g, 3, none⟩ (.bool b'.z)).setCell ⟨g, 4, none⟩ (.int .u64 b'.g)).setCell ⟨g, 5, none⟩ (.slice b'.r1.a b'.r1.n b'.r1.c)).setCell ⟨g, 6, none⟩ (.slice b'.r2.a b'.r2.n b'.r2.c)).setCell ⟨g, 7, none⟩ (.slice b'.r3.a b'.r3.n b'.r3.c)).setCell ⟨g, 8, none⟩ (.int .i64 b'.mw)).setCell ⟨g, 9, none⟩ (.int .i64 b'.mh)).setCell ⟨g, 10, none⟩ (.slice b'.mc.a b'.mc.n b'.mc.c)).setCell ⟨g, 11, none⟩ (.slice P'.a P'.n P'.c)).setCell ⟨g, 12, none⟩ (.slice U'.a U'.n U'.c)).setCell ⟨g, 13, none⟩ (.slice b'.e1.a b'.e1.n b'.e1.c)).setCell ⟨g, 14, none⟩ (.slice b'.e2.a b'.e2.n b'.e2.c)).setCell ⟨g, 15, none⟩ (.slice b'.e3.a b'.e3.n b'.e3.c)), ?_, ?_, ?_⟩
  · unfold execOp
    simp only [ho, hx, hv]
    first
      | (go_simp; done)
      | (go_simp; rfl)
  · refine (blk_set (blk_set (blk_set (blk_set (blk_set (blk_set (blk_set (blk_set (blk_set (blk_set (blk_set (blk_set (blk_set (blk_set (blk_set (blk_set hb.out _ _) _ _) _ _) _ _) _ _) _ _) _ _) _ _) _ _) _ _) _ _) _ _) _ _) _ _) _ _) _ _).trans ?_
    simp only [gm, List.setIfInBounds_toArray, List.set_cons_zero, List.set_cons_succ]
  · exact Put.set (Put.set (Put.set (Put.set (Put.set (Put.set (Put.set (Put.set (Put.set (Put.set (Put.set (Put.set (Put.set (Put.set (Put.set (Put.set (Put.refl W g) _ _) _ _) _ _) _ _) _ _) _ _) _ _) _ _) _ _) _ _) _ _) _ _) _ _) _ _) _ _) _ _
section
variable {ops : Array Oper} {rest : List Oper} {o : Oper} {a : Act} {Q : Exit → Act → World → Prop}
theorem load_G_event {W : World} {g : Nat} {b : B} {win : Int} {P U : RS} (hgd : o.guard = none) (x : Operand) (ho : o.op = .load 37 x) (hx : a.eval x = .pointer (some ⟨g, 0, none⟩)) (h : W.heap[g]? = some (.cells (gm b win P U) 37 (0, 0))) (hk : wpList Try.prog ops Q rest (a.put o.dst (.agg (gm b win P U))) W) : wpList Try.prog ops Q (o :: rest) a W :=
  Kd.event_run hgd (load_G h x ho hx) hk
theorem store_G_event {W : World} {g : Nat} {b b' : B} {win win' : Int} {P U P' U' : RS} (hgd : o.guard = none) (x v : Operand) (ho : o.op = .store 37 x v) (hN : o.dst = none) (hx : a.eval x = .pointer (some ⟨g, 0, none⟩)) (hv : a.eval v = .agg (gm b' win' P' U')) (h : W.heap[g]? = some (.cells (gm b win P U) 37 (0, 0)))
    (hk : ∀ W1, W1.heap[g]? = some (.cells (gm b' win' P' U') 37 (0, 0)) → Put W W1 g → wpList Try.prog ops Q rest a W1) : wpList Try.prog ops Q (o :: rest) a W := by
  obtain ⟨W1, h1, h2, h3⟩ := store_G h x v ho hx hv
  refine wpList_plain hgd fun K hK => ?_
  unfold Oper.wp
  rw [h1]
  show K (a.put o.dst undef) W1
  rw [hN]
  exact hK _ _ (hk W1 h2 h3)
theorem store1_event {P : Program} {W : World} {g i : Nat} {cs cs' : Array Value} {t ty : TypeId} {u : Value} (hgd : o.guard = none) {p : Tmp} {v : Operand} (_ho : o.op = .store ty (.tmp p) v) (hN : o.dst = none) (h : W.heap[g]? = some (.cells cs t (0, 0)))
    (hrun : (execOp a.eval o).run P W = .ok .skip (W.setCell ⟨g, i, none⟩ u)) (e : cs.setIfInBounds i u = cs')
    (hk : ∀ W1, W1.heap[g]? = some (.cells cs' t (0, 0)) → Put W W1 g → wpList P ops Q rest a W1) : wpList P ops Q (o :: rest) a W := by
  refine wpList_plain hgd fun K hK => ?_
  unfold Oper.wp
  rw [hrun]
  show K (a.put o.dst undef) _
  rw [hN]
  exact hK _ _ (hk _ (blk_put h i u e) (Put.set (Put.refl _ g) i u))
end
end Go.Proofs.Ytolcofjdjbnimaa.V
