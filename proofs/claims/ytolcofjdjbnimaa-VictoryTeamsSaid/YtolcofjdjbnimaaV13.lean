/- Chapter 33: the walk of the reference's Resign. -/
import Derived.Test.YtolcofjdjbnimaaV12
namespace Go.Proofs.Ytolcofjdjbnimaa.V
open Go.RowKit Go.Proofs.YtolcofjdjbnimaaW.PrintWords Go.Proofs.YtolcofjdjbnimaaW.PrintLast Go.Proofs.YtolcofjdjbnimaaW.PrintMore
attribute [local go_sem] max2_int min2_int max_two min_two max_three min_three max_four min_four   -- for this text's walks alone
set_option linter.unusedVariables false
set_option linter.unusedSimpArgs false

section
variable {ops : Array Oper} {o : Oper} {a : Act} {Q : Exit → Act → World → Prop} {Kc : Act → World → Prop}
theorem app69_step {w W : World} {R : RS} {xs : List S69} (hw : Region.wanted o (yielded ops a.tmps) = true) (s x : Operand) (ho : o.op = .call { callee := .builtin .append, args := #[s, x], argTypes := #[32, 32] }) (p : S69) (hs : a.eval s = .slice R.a R.n R.c) (hx : a.eval x = .slice (some ⟨W.heap.size, 0, none⟩) 1 1)
    (HO : Ow k69 69 W w.heap.size R xs) (HB : Below w.heap.size w W) (hl : xs.length ≤ 1000)
    (hk : ∀ R' w1, Ow k69 69 w1 w.heap.size R' (xs ++ [p]) → Below w.heap.size w w1 → W.grownBy w1 (Value.slice R.a R.n R.c).ownBlock → Kc (a.put o.dst (.slice R'.a R'.n R'.c)) w1) : if Region.wanted o (yielded ops a.tmps) = true then Oper.wp Try.prog o a (W.alloc (.cells (en p) 69 (0, 0))) Kc Q else Kc (a.put o.dst undef) (W.alloc (.cells (en p) 69 (0, 0))) := by
  refine Kd.R_append_step k69 (w0 := w) w.heap.size hw s x 32 69 (.agg #[(.int .i64 0), (.int .i64 0), (.string ⟨#[]⟩), (.int .i64 0), (.int .i64 0), (.int .i64 0), (.int .i64 0), (.int .i64 0), (.int .i64 0), (.int .i64 0), (.slice none 0 0), (.slice none 0 0)]) 136 ho Try.underlying32 info69 rfl (by decide) (by omega) _ xs p (en p).toList (fun _ => True) (fun _ => False) hs hx (k69_mkM _ _ _ p) (fun _ h => h.elim) (fun _ _ => trivial) HO HB HB.size (by omega) (fun v1 w1 h1 h2 h3 _ => ?_)
  obtain ⟨A, c, rfl⟩ := Kd.R_slice h1
  exact hk ⟨A, _, c⟩ w1 h1 h2 h3
theorem store1_step {P : Program} {W : World} {g i : Nat} {cs cs' : Array Value} {t : TypeId} {u : Value} (hw : Region.wanted o (yielded ops a.tmps) = true) (hN : o.dst = none) (h : W.heap[g]? = some (.cells cs t (0, 0)))
    (hrun : (execOp a.eval o).run P W = .ok .skip (W.setCell ⟨g, i, none⟩ u)) (e : cs.setIfInBounds i u = cs')
    (hk : ∀ W1, W1.heap[g]? = some (.cells cs' t (0, 0)) → Put W W1 g → Kc a W1) : if Region.wanted o (yielded ops a.tmps) = true then Oper.wp P o a W Kc Q else Kc (a.put none undef) W :=
  skip_ hw hN hrun (hk _ (blk_put h i u e) (Put.set (Put.refl _ g) i u))
end

set_option maxHeartbeats 8000000 in
set_option maxRecDepth 100000 in
theorem rresign_calls (b : B) (win : Int) (P U : RS) (ps : List S52) (us : List S69) (a : Int) (w : World) (hR : Rw k52 w P ps) (hU : Rw k69 w U us) (hn : P.n ≤ 100) (hm : U.n ≤ 100) : Calls Try.prog 18 #[.agg (gm b win P U), .int .i64 a] w fun e w' => ∃ P' U' : RS, e = .returned (.tuple #[.agg (gm (resB b ps a) (resW win ps a) P' U'), .int .i64 (resCode ps a)]) ∧ Rw k52 w' P' (resP ps a) ∧ Rw k69 w' U' (resU ps us a) ∧ Below w.heap.size w w' := by
  have hu37 := Try.underlying37
  have hu69 := Try.underlying69
  have hu71 := Try.underlying71
  obtain ⟨pa, pn, pc⟩ := P
  obtain ⟨ua, un, uc⟩ := U
  have HR := Aside0.mk hR
  have HU := Aside0.mk hU
  have HN := Aside0.mk (And.intro hn hm)
  clear hR hU hn hm
  have HB := Aside0.mk (Below.refl w.heap.size w)
  unfold resB resW resP resU resCode
  obtain ⟨k, hk⟩ : ∃ k, k = findS ps a := ⟨_, rfl⟩
  have hkb : k < (pn : Int) ∧ -1 ≤ k := by have l_ : pn = ps.length := HR.out.len; have := findS_lt ps a; omega
  rw [← hk]
  replace hk := Aside0.mk hk
  by_cases c : k < 0
  · simp only [if_pos c, if_neg (show ¬ ((8 : Int) = 0) by decide)]
    have cb := decide_eq_true c
    clear hkb c
    go_enter Try.func18, Try.ntmps18
    go_wp2_with (first | ((with_reducible refine gate_dst (N := 2) rfl ?_); refine box_event ?hg (N := 2) ?hd (cs := (gm b win ⟨pa, pn, pc⟩ ⟨ua, un, uc⟩)) (t := 37) ?hr ?_; (case hd => rfl); (case hg => rfl); (case hr => first | (go_simp; done) | (go_simp; rfl)); intro g2 hg wb1_ hbox hb; have GEg2_HB := Aside0.mk (by rw [hg]; exact (below_size (by repeat (first | (with_reducible first | exact HB.out | apply below_alloc | apply pw_below_drewN | apply below_drew1) | exact HB.out))) : w.heap.size ≤ g2); have n0_ := Aside0.mk (below_step (by repeat (first | (with_reducible first | exact HB.out | apply below_alloc | apply pw_below_drewN | apply below_drew1) | exact HB.out)) hb); clear HB; have HB := n0_; clear n0_; have BKg2 := Aside0.mk hbox; clear hb hbox hg) | ((with_reducible refine gate_dst (N := 4) rfl ?_); refine box_event ?hg (N := 4) ?hd (cs := (gm B0 0 RS0 RS0)) (t := 37) ?hr ?_; (case hd => rfl); (case hg => rfl); (case hr => first | (go_simp; done) | (go_simp; rfl)); intro g4 hg wb2_ hbox hb; have GEg4_HB := Aside0.mk (by rw [hg]; exact (below_size (by repeat (first | (with_reducible first | exact HB.out | apply below_alloc | apply pw_below_drewN | apply below_drew1) | exact HB.out))) : w.heap.size ≤ g4); have NEg2_g4 := Aside0.mk (by rw [hg]; exact Nat.ne_of_lt (blk_lt (by (with_reducible repeat (first | refine blk_drewN ?_ _ | refine blk_drew ?_ | refine blk_alloc ?_ _)); exact BKg2.out)) : g2 ≠ g4); have n0_ := Aside0.mk (below_step (by repeat (first | (with_reducible first | exact HB.out | apply below_alloc | apply pw_below_drewN | apply below_drew1) | exact HB.out)) hb); have n1_ := Aside0.mk (blk_below (g := g2) (o := .cells (gm b win ⟨pa, pn, pc⟩ ⟨ua, un, uc⟩) 37 (0, 0)) (by (with_reducible repeat (first | refine blk_drewN ?_ _ | refine blk_drew ?_ | refine blk_alloc ?_ _)); exact BKg2.out) hb); clear HB BKg2; have HB := n0_; have BKg2 := n1_; clear n0_ n1_; have BKg4 := Aside0.mk hbox; clear hb hbox hg) | ((with_reducible refine gate_dst (N := 9) rfl ?_); refine load_G_event rfl _ rfl rfl (by (with_reducible repeat (first | refine blk_drewN ?_ _ | refine blk_drew ?_ | refine blk_alloc ?_ _)); exact BKg2.out) ?_) | (go_at_call 23; (with_reducible refine (rfind_calls b win ⟨pa, pn, pc⟩ ⟨ua, un, uc⟩ ps a _ (by repeat (first | exact HR.out.below HB.out | refine Rw.alloc ?_ _ | refine Rw.drewN ?_ _ | refine Rw.drew ?_)) HN.out.1).mono ?_); rintro e wc3_ ⟨rfl, hb⟩; have n0_ := Aside0.mk (below_step (by repeat (first | (with_reducible first | exact HB.out | apply below_alloc | apply pw_below_drewN | apply below_drew1) | exact HB.out)) hb); have n1_ := Aside0.mk (blk_below (g := g2) (o := .cells (gm b win ⟨pa, pn, pc⟩ ⟨ua, un, uc⟩) 37 (0, 0)) (by (with_reducible repeat (first | refine blk_drewN ?_ _ | refine blk_drew ?_ | refine blk_alloc ?_ _)); exact BKg2.out) hb); have n2_ := Aside0.mk (blk_below (g := g4) (o := .cells (gm B0 0 RS0 RS0) 37 (0, 0)) (by (with_reducible repeat (first | refine blk_drewN ?_ _ | refine blk_drew ?_ | refine blk_alloc ?_ _)); exact BKg4.out) hb); clear HB BKg2 BKg4; have HB := n0_; have BKg2 := n1_; have BKg4 := n2_; clear n0_ n1_ n2_; (try clear hb); rw [← hk.out]; obtain ⟨z4_0, z4_1, z4_2, z4_3, z4_4, z4_5, z4_6, z4_7, z4_8, z4_9, z4_10, z4_11, z4_12, z4_13, z4_14, z4_15⟩ := cells_G BKg2.out; have f4_ := blk_frozen BKg2.out; obtain ⟨z5_0, z5_1, z5_2, z5_3, z5_4, z5_5, z5_6, z5_7, z5_8, z5_9, z5_10, z5_11, z5_12, z5_13, z5_14, z5_15⟩ := cells_G BKg4.out; have f5_ := blk_frozen BKg4.out) | ((with_reducible refine gate_store (t := 37) (p := 4) rfl ?_); refine store_G_event (b' := B0) (win' := 0) (P' := RS0) (U' := RS0) rfl _ _ rfl rfl rfl rfl (by (with_reducible repeat (first | refine blk_drewN ?_ _ | refine blk_drew ?_ | refine blk_alloc ?_ _)); exact BKg4.out) ?_; intro wt6_ hblk hput; have n0_ := Aside0.mk (hput.below (by repeat (first | (with_reducible first | exact HB.out | apply below_alloc | apply pw_below_drewN | apply below_drew1) | exact HB.out)) GEg4_HB.out); have n1_ := Aside0.mk (hput.blk (by (with_reducible repeat (first | refine blk_drewN ?_ _ | refine blk_drew ?_ | refine blk_alloc ?_ _)); exact BKg2.out) NEg2_g4.out); have n2_ := Aside0.mk (hblk); clear HB BKg2 BKg4; have HB := n0_; have BKg2 := n1_; have BKg4 := n2_; clear n0_ n1_ n2_; clear hblk hput))
    refine bodyPost_ret (results_ct rfl _ _ g4 37 (gm B0 0 RS0 RS0) (0, 0) _ rfl (by (with_reducible repeat (first | refine blk_drewN ?_ _ | refine blk_drew ?_ | refine blk_alloc ?_ _)); exact BKg4.out) Try.underlying37 rfl (by kernel_rfl)) rfl ?_
    exact ⟨RS0, RS0, rfl, rw_nil _ _, rw_nil _ _, (by repeat (first | (with_reducible first | exact HB.out | apply below_alloc | apply pw_below_drewN | apply below_drew1) | exact HB.out))⟩
  · have cb' := decide_eq_false c
    have cb : decide (0 ≤ k) = true := decide_eq_true (by omega)
    have hkk := Aside0.mk hkb
    obtain ⟨q, hq⟩ : ∃ q, q = (rd_T52 ps k).f5 := ⟨_, rfl⟩
    simp only [if_neg c, ← hq]
    replace hq := Aside0.mk hq
    have c1 : (0 ≤ k) = True := eq_true (by omega)
    have c2 : decide (k < (pn : Int)) = true := decide_eq_true hkb.1
    have c3 := eq_true hkb.1
    obtain ⟨ad, he, -⟩ := at_P HR.out HB.out k (by omega) hkb.1
    dsimp only at he
    subst he
    clear hkb c
    cases q with
    | true =>
      simp only [if_true, if_neg (show ¬ ((21 : Int) = 0) by decide)]
      go_enter Try.func18, Try.ntmps18
      go_wp2_with (first | ((with_reducible refine gate_dst (N := 2) rfl ?_); refine box_event ?hg (N := 2) ?hd (cs := (gm b win ⟨some ad, pn, pc⟩ ⟨ua, un, uc⟩)) (t := 37) ?hr ?_; (case hd => rfl); (case hg => rfl); (case hr => first | (go_simp; done) | (go_simp; rfl)); intro g2 hg wb1_ hbox hb; have GEg2_HB := Aside0.mk (by rw [hg]; exact (below_size (by repeat (first | (with_reducible first | exact HB.out | apply below_alloc | apply pw_below_drewN | apply below_drew1) | exact HB.out))) : w.heap.size ≤ g2); have n0_ := Aside0.mk (below_step (by repeat (first | (with_reducible first | exact HB.out | apply below_alloc | apply pw_below_drewN | apply below_drew1) | exact HB.out)) hb); clear HB; have HB := n0_; clear n0_; have BKg2 := Aside0.mk hbox; clear hb hbox hg) | ((with_reducible refine gate_dst (N := 4) rfl ?_); refine box_event ?hg (N := 4) ?hd (cs := (gm B0 0 RS0 RS0)) (t := 37) ?hr ?_; (case hd => rfl); (case hg => rfl); (case hr => first | (go_simp; done) | (go_simp; rfl)); intro g4 hg wb2_ hbox hb; have GEg4_HB := Aside0.mk (by rw [hg]; exact (below_size (by repeat (first | (with_reducible first | exact HB.out | apply below_alloc | apply pw_below_drewN | apply below_drew1) | exact HB.out))) : w.heap.size ≤ g4); have NEg2_g4 := Aside0.mk (by rw [hg]; exact Nat.ne_of_lt (blk_lt (by (with_reducible repeat (first | refine blk_drewN ?_ _ | refine blk_drew ?_ | refine blk_alloc ?_ _)); exact BKg2.out)) : g2 ≠ g4); have n0_ := Aside0.mk (below_step (by repeat (first | (with_reducible first | exact HB.out | apply below_alloc | apply pw_below_drewN | apply below_drew1) | exact HB.out)) hb); have n1_ := Aside0.mk (blk_below (g := g2) (o := .cells (gm b win ⟨some ad, pn, pc⟩ ⟨ua, un, uc⟩) 37 (0, 0)) (by (with_reducible repeat (first | refine blk_drewN ?_ _ | refine blk_drew ?_ | refine blk_alloc ?_ _)); exact BKg2.out) hb); clear HB BKg2; have HB := n0_; have BKg2 := n1_; clear n0_ n1_; have BKg4 := Aside0.mk hbox; clear hb hbox hg) | ((with_reducible refine gate_dst (N := 9) rfl ?_); refine load_G_event rfl _ rfl rfl (by (with_reducible repeat (first | refine blk_drewN ?_ _ | refine blk_drew ?_ | refine blk_alloc ?_ _)); exact BKg2.out) ?_) | (go_at_call 23; (with_reducible refine (rfind_calls b win ⟨some ad, pn, pc⟩ ⟨ua, un, uc⟩ ps a _ (by repeat (first | exact HR.out.below HB.out | refine Rw.alloc ?_ _ | refine Rw.drewN ?_ _ | refine Rw.drew ?_)) HN.out.1).mono ?_); rintro e wc3_ ⟨rfl, hb⟩; have n0_ := Aside0.mk (below_step (by repeat (first | (with_reducible first | exact HB.out | apply below_alloc | apply pw_below_drewN | apply below_drew1) | exact HB.out)) hb); have n1_ := Aside0.mk (blk_below (g := g2) (o := .cells (gm b win ⟨some ad, pn, pc⟩ ⟨ua, un, uc⟩) 37 (0, 0)) (by (with_reducible repeat (first | refine blk_drewN ?_ _ | refine blk_drew ?_ | refine blk_alloc ?_ _)); exact BKg2.out) hb); have n2_ := Aside0.mk (blk_below (g := g4) (o := .cells (gm B0 0 RS0 RS0) 37 (0, 0)) (by (with_reducible repeat (first | refine blk_drewN ?_ _ | refine blk_drew ?_ | refine blk_alloc ?_ _)); exact BKg4.out) hb); clear HB BKg2 BKg4; have HB := n0_; have BKg2 := n1_; have BKg4 := n2_; clear n0_ n1_ n2_; (try clear hb); rw [← hk.out]; obtain ⟨_, he, h0, h1, h2, h3, h4, h5⟩ := at_P HR.out HB.out k (of_decide_eq_true cb) hkk.out.1; rw [← hq.out] at h5; dsimp only at he; cases he; obtain ⟨z4_0, z4_1, z4_2, z4_3, z4_4, z4_5, z4_6, z4_7, z4_8, z4_9, z4_10, z4_11, z4_12, z4_13, z4_14, z4_15⟩ := cells_G BKg2.out; have f4_ := blk_frozen BKg2.out; obtain ⟨z5_0, z5_1, z5_2, z5_3, z5_4, z5_5, z5_6, z5_7, z5_8, z5_9, z5_10, z5_11, z5_12, z5_13, z5_14, z5_15⟩ := cells_G BKg4.out; have f5_ := blk_frozen BKg4.out) | ((with_reducible refine gate_store (t := 37) (p := 4) rfl ?_); refine store_G_event (b' := B0) (win' := 0) (P' := RS0) (U' := RS0) rfl _ _ rfl rfl rfl rfl (by (with_reducible repeat (first | refine blk_drewN ?_ _ | refine blk_drew ?_ | refine blk_alloc ?_ _)); exact BKg4.out) ?_; intro wt6_ hblk hput; have n0_ := Aside0.mk (hput.below (by repeat (first | (with_reducible first | exact HB.out | apply below_alloc | apply pw_below_drewN | apply below_drew1) | exact HB.out)) GEg4_HB.out); have n1_ := Aside0.mk (hput.blk (by (with_reducible repeat (first | refine blk_drewN ?_ _ | refine blk_drew ?_ | refine blk_alloc ?_ _)); exact BKg2.out) NEg2_g4.out); have n2_ := Aside0.mk (hblk); clear HB BKg2 BKg4; have HB := n0_; have BKg2 := n1_; have BKg4 := n2_; clear n0_ n1_ n2_; clear hblk hput))
      refine bodyPost_ret (results_ct rfl _ _ g4 37 (gm B0 0 RS0 RS0) (0, 0) _ rfl (by (with_reducible repeat (first | refine blk_drewN ?_ _ | refine blk_drew ?_ | refine blk_alloc ?_ _)); exact BKg4.out) Try.underlying37 rfl (by kernel_rfl)) rfl ?_
      exact ⟨RS0, RS0, rfl, rw_nil _ _, rw_nil _ _, (by repeat (first | (with_reducible first | exact HB.out | apply below_alloc | apply pw_below_drewN | apply below_drew1) | exact HB.out))⟩
    | false =>
      simp only [Bool.false_eq_true, if_false, if_true]
      go_enter Try.func18, Try.ntmps18
      go_wp2_with (first | ((with_reducible refine gate_dst (N := 2) rfl ?_); refine box_event ?hg (N := 2) ?hd (cs := (gm b win ⟨some ad, pn, pc⟩ ⟨ua, un, uc⟩)) (t := 37) ?hr ?_; (case hd => rfl); (case hg => rfl); (case hr => first | (go_simp; done) | (go_simp; rfl)); intro g2 hg wb1_ hbox hb; have GEg2_HB := Aside0.mk (by rw [hg]; exact (below_size (by repeat (first | (with_reducible first | exact HB.out | apply below_alloc | apply pw_below_drewN | apply below_drew1) | exact HB.out))) : w.heap.size ≤ g2); have n0_ := Aside0.mk (below_step (by repeat (first | (with_reducible first | exact HB.out | apply below_alloc | apply pw_below_drewN | apply below_drew1) | exact HB.out)) hb); clear HB; have HB := n0_; clear n0_; have BKg2 := Aside0.mk hbox; clear hb hbox hg) | ((with_reducible refine gate_dst (N := 4) rfl ?_); refine box_event ?hg (N := 4) ?hd (cs := (gm B0 0 RS0 RS0)) (t := 37) ?hr ?_; (case hd => rfl); (case hg => rfl); (case hr => first | (go_simp; done) | (go_simp; rfl)); intro g4 hg wb2_ hbox hb; have GEg4_HB := Aside0.mk (by rw [hg]; exact (below_size (by repeat (first | (with_reducible first | exact HB.out | apply below_alloc | apply pw_below_drewN | apply below_drew1) | exact HB.out))) : w.heap.size ≤ g4); have NEg2_g4 := Aside0.mk (by rw [hg]; exact Nat.ne_of_lt (blk_lt (by (with_reducible repeat (first | refine blk_drewN ?_ _ | refine blk_drew ?_ | refine blk_alloc ?_ _)); exact BKg2.out)) : g2 ≠ g4); have n0_ := Aside0.mk (below_step (by repeat (first | (with_reducible first | exact HB.out | apply below_alloc | apply pw_below_drewN | apply below_drew1) | exact HB.out)) hb); have n1_ := Aside0.mk (blk_below (g := g2) (o := .cells (gm b win ⟨some ad, pn, pc⟩ ⟨ua, un, uc⟩) 37 (0, 0)) (by (with_reducible repeat (first | refine blk_drewN ?_ _ | refine blk_drew ?_ | refine blk_alloc ?_ _)); exact BKg2.out) hb); clear HB BKg2; have HB := n0_; have BKg2 := n1_; clear n0_ n1_; have BKg4 := Aside0.mk hbox; clear hb hbox hg) | ((with_reducible refine gate_dst (N := 9) rfl ?_); refine load_G_event rfl _ rfl rfl (by (with_reducible repeat (first | refine blk_drewN ?_ _ | refine blk_drew ?_ | refine blk_alloc ?_ _)); exact BKg2.out) ?_) | (go_at_call 23; (with_reducible refine (rfind_calls b win ⟨some ad, pn, pc⟩ ⟨ua, un, uc⟩ ps a _ (by repeat (first | exact HR.out.below HB.out | refine Rw.alloc ?_ _ | refine Rw.drewN ?_ _ | refine Rw.drew ?_)) HN.out.1).mono ?_); rintro e wc3_ ⟨rfl, hb⟩; have n0_ := Aside0.mk (below_step (by repeat (first | (with_reducible first | exact HB.out | apply below_alloc | apply pw_below_drewN | apply below_drew1) | exact HB.out)) hb); have n1_ := Aside0.mk (blk_below (g := g2) (o := .cells (gm b win ⟨some ad, pn, pc⟩ ⟨ua, un, uc⟩) 37 (0, 0)) (by (with_reducible repeat (first | refine blk_drewN ?_ _ | refine blk_drew ?_ | refine blk_alloc ?_ _)); exact BKg2.out) hb); have n2_ := Aside0.mk (blk_below (g := g4) (o := .cells (gm B0 0 RS0 RS0) 37 (0, 0)) (by (with_reducible repeat (first | refine blk_drewN ?_ _ | refine blk_drew ?_ | refine blk_alloc ?_ _)); exact BKg4.out) hb); clear HB BKg2 BKg4; have HB := n0_; have BKg2 := n1_; have BKg4 := n2_; clear n0_ n1_ n2_; (try clear hb); rw [← hk.out]; obtain ⟨_, he, h0, h1, h2, h3, h4, h5⟩ := at_P HR.out HB.out k (of_decide_eq_true cb) hkk.out.1; rw [← hq.out] at h5; dsimp only at he; cases he; obtain ⟨z4_0, z4_1, z4_2, z4_3, z4_4, z4_5, z4_6, z4_7, z4_8, z4_9, z4_10, z4_11, z4_12, z4_13, z4_14, z4_15⟩ := cells_G BKg2.out; have f4_ := blk_frozen BKg2.out; obtain ⟨z5_0, z5_1, z5_2, z5_3, z5_4, z5_5, z5_6, z5_7, z5_8, z5_9, z5_10, z5_11, z5_12, z5_13, z5_14, z5_15⟩ := cells_G BKg4.out; have f5_ := blk_frozen BKg4.out) | ((with_reducible refine gate_dst (N := 22) rfl ?_); refine load_G_event rfl _ rfl rfl (by (with_reducible repeat (first | refine blk_drewN ?_ _ | refine blk_drew ?_ | refine blk_alloc ?_ _)); exact BKg2.out) ?_) | ((with_reducible refine gate_dst (N := 7) rfl ?_); refine box_event ?hg (N := 7) ?hd (cs := (gm B0 0 RS0 RS0)) (t := 37) ?hr ?_; (case hd => rfl); (case hg => rfl); (case hr => first | (go_simp; done) | (go_simp; rfl)); intro g7 hg wb6_ hbox hb; have GEg7_HB := Aside0.mk (by rw [hg]; exact (below_size (by repeat (first | (with_reducible first | exact HB.out | apply below_alloc | apply pw_below_drewN | apply below_drew1) | exact HB.out))) : w.heap.size ≤ g7); have NEg2_g7 := Aside0.mk (by rw [hg]; exact Nat.ne_of_lt (blk_lt (by (with_reducible repeat (first | refine blk_drewN ?_ _ | refine blk_drew ?_ | refine blk_alloc ?_ _)); exact BKg2.out)) : g2 ≠ g7); have NEg4_g7 := Aside0.mk (by rw [hg]; exact Nat.ne_of_lt (blk_lt (by (with_reducible repeat (first | refine blk_drewN ?_ _ | refine blk_drew ?_ | refine blk_alloc ?_ _)); exact BKg4.out)) : g4 ≠ g7); have n0_ := Aside0.mk (below_step (by repeat (first | (with_reducible first | exact HB.out | apply below_alloc | apply pw_below_drewN | apply below_drew1) | exact HB.out)) hb); have n1_ := Aside0.mk (blk_below (g := g2) (o := .cells (gm b win ⟨some ad, pn, pc⟩ ⟨ua, un, uc⟩) 37 (0, 0)) (by (with_reducible repeat (first | refine blk_drewN ?_ _ | refine blk_drew ?_ | refine blk_alloc ?_ _)); exact BKg2.out) hb); have n2_ := Aside0.mk (blk_below (g := g4) (o := .cells (gm B0 0 RS0 RS0) 37 (0, 0)) (by (with_reducible repeat (first | refine blk_drewN ?_ _ | refine blk_drew ?_ | refine blk_alloc ?_ _)); exact BKg4.out) hb); clear HB BKg2 BKg4; have HB := n0_; have BKg2 := n1_; have BKg4 := n2_; clear n0_ n1_ n2_; have BKg7 := Aside0.mk hbox; clear hb hbox hg) | ((with_reducible refine gate_store (t := 37) (p := 7) rfl ?_); refine store_G_event (b' := b) (win' := win) (P' := ⟨some ad, pn, pc⟩) (U' := ⟨ua, un, uc⟩) rfl _ _ rfl rfl rfl rfl (by (with_reducible repeat (first | refine blk_drewN ?_ _ | refine blk_drew ?_ | refine blk_alloc ?_ _)); exact BKg7.out) ?_; intro wt7_ hblk hput; have n0_ := Aside0.mk (hput.below (by repeat (first | (with_reducible first | exact HB.out | apply below_alloc | apply pw_below_drewN | apply below_drew1) | exact HB.out)) GEg7_HB.out); have n1_ := Aside0.mk (hput.blk (by (with_reducible repeat (first | refine blk_drewN ?_ _ | refine blk_drew ?_ | refine blk_alloc ?_ _)); exact BKg2.out) NEg2_g7.out); have n2_ := Aside0.mk (hput.blk (by (with_reducible repeat (first | refine blk_drewN ?_ _ | refine blk_drew ?_ | refine blk_alloc ?_ _)); exact BKg4.out) NEg4_g7.out); have n3_ := Aside0.mk (hblk); clear HB BKg2 BKg4 BKg7; have HB := n0_; have BKg2 := n1_; have BKg4 := n2_; have BKg7 := n3_; clear n0_ n1_ n2_ n3_; clear hblk hput; obtain ⟨z8_0, z8_1, z8_2, z8_3, z8_4, z8_5, z8_6, z8_7, z8_8, z8_9, z8_10, z8_11, z8_12, z8_13, z8_14, z8_15⟩ := cells_G BKg2.out; have f8_ := blk_frozen BKg2.out; obtain ⟨z9_0, z9_1, z9_2, z9_3, z9_4, z9_5, z9_6, z9_7, z9_8, z9_9, z9_10, z9_11, z9_12, z9_13, z9_14, z9_15⟩ := cells_G BKg4.out; have f9_ := blk_frozen BKg4.out; obtain ⟨z10_0, z10_1, z10_2, z10_3, z10_4, z10_5, z10_6, z10_7, z10_8, z10_9, z10_10, z10_11, z10_12, z10_13, z10_14, z10_15⟩ := cells_G BKg7.out; have f10_ := blk_frozen BKg7.out) | ((with_reducible refine gate_dst (N := 23) rfl ?_); refine Kd.R_lit k52 _ 52 ?hg (N := 23) ?hd (xs := ([] : List S52)) (inner := []) (ok := fun _ => True) (okp := fun _ => True) ?hr ?hp (fun _ hk => hk) trivial (Below.refl _ _) (Nat.le_refl _) (by simp) ?_; (case hg => rfl); (case hd => rfl); (case hr => first | (go_simp; done) | (go_simp; rfl)); (case hp => exact (Reps.none _ _)); intro v5 wlit_ ho5 hb hg_ hnew_; obtain ⟨A5, c5, rfl⟩ := Kd.R_slice ho5; have hlow_ := low_ (by repeat (first | (with_reducible first | exact HB.out | apply below_alloc | apply pw_below_drewN | apply below_drew1) | exact HB.out)) hb; have n0_ := Aside0.mk (below_step (by repeat (first | (with_reducible first | exact HB.out | apply below_alloc | apply pw_below_drewN | apply below_drew1) | exact HB.out)) hb); have n1_ := Aside0.mk (blk_below (g := g2) (o := .cells (gm b win ⟨some ad, pn, pc⟩ ⟨ua, un, uc⟩) 37 (0, 0)) (by (with_reducible repeat (first | refine blk_drewN ?_ _ | refine blk_drew ?_ | refine blk_alloc ?_ _)); exact BKg2.out) hb); have n2_ := Aside0.mk (blk_below (g := g4) (o := .cells (gm B0 0 RS0 RS0) 37 (0, 0)) (by (with_reducible repeat (first | refine blk_drewN ?_ _ | refine blk_drew ?_ | refine blk_alloc ?_ _)); exact BKg4.out) hb); have n3_ := Aside0.mk (blk_below (g := g7) (o := .cells (gm b win ⟨some ad, pn, pc⟩ ⟨ua, un, uc⟩) 37 (0, 0)) (by (with_reducible repeat (first | refine blk_drewN ?_ _ | refine blk_drew ?_ | refine blk_alloc ?_ _)); exact BKg7.out) hb); clear HB BKg2 BKg4 BKg7; have HB := n0_; have BKg2 := n1_; have BKg4 := n2_; have BKg7 := n3_; clear n0_ n1_ n2_ n3_; have HOp := Aside0.mk (show Ow k52 52 wlit_ w.heap.size ⟨A5, _, c5⟩ [] from Kd.R_lower ho5 hlow_); have CHOp := Aside0.mk (Below.refl wlit_.heap.size wlit_); clear hb hg_ hnew_ ho5 hlow_; obtain ⟨z11_0, z11_1, z11_2, z11_3, z11_4, z11_5, z11_6, z11_7, z11_8, z11_9, z11_10, z11_11, z11_12, z11_13, z11_14, z11_15⟩ := cells_G BKg2.out; have f11_ := blk_frozen BKg2.out; obtain ⟨z12_0, z12_1, z12_2, z12_3, z12_4, z12_5, z12_6, z12_7, z12_8, z12_9, z12_10, z12_11, z12_12, z12_13, z12_14, z12_15⟩ := cells_G BKg4.out; have f12_ := blk_frozen BKg4.out; obtain ⟨z13_0, z13_1, z13_2, z13_3, z13_4, z13_5, z13_6, z13_7, z13_8, z13_9, z13_10, z13_11, z13_12, z13_13, z13_14, z13_15⟩ := cells_G BKg7.out; have f13_ := blk_frozen BKg7.out) | ((with_reducible refine gate_builtin (b := .append) (xs := #[.tmp 23, .tmp 25]) rfl ?_); at_builtin; refine apps52_event (w := w) (R := ⟨A5, _, c5⟩) (S := ⟨some ad, pn, pc⟩) rfl (.tmp 23) (.tmp 25) rfl rfl rfl (Kd.R_below HOp.out (by repeat (first | (with_reducible first | exact CHOp.out | apply below_alloc | apply pw_below_drewN | apply below_drew1) | exact CHOp.out))) (by repeat (first | exact HR.out.below HB.out | refine Rw.alloc ?_ _ | refine Rw.drewN ?_ _ | refine Rw.drew ?_)) (by repeat (first | (with_reducible first | exact HB.out | apply below_alloc | apply pw_below_drewN | apply below_drew1) | exact HB.out)) (by simp) (Nat.le_trans HN.out.1 (by decide)) ?_; intro R wap_ hO_ hB_ hg_; replace hO_ := (show Ow k52 52 wap_ w.heap.size R ps from hO_); have n0_ := Aside0.mk (hB_); have n1_ := Aside0.mk (hO_); have n2_ := Aside0.mk (Below.refl wap_.heap.size wap_); have n3_ := Aside0.mk (blk_grown (by (with_reducible repeat (first | refine blk_drewN ?_ _ | refine blk_drew ?_ | refine blk_alloc ?_ _)); exact BKg2.out) hg_ (Kd.R_ne (Kd.R_below HOp.out (by repeat (first | (with_reducible first | exact CHOp.out | apply below_alloc | apply pw_below_drewN | apply below_drew1) | exact CHOp.out))) (by (with_reducible repeat (first | refine blk_drewN ?_ _ | refine blk_drew ?_ | refine blk_alloc ?_ _)); exact BKg2.out) (by decide))); have n4_ := Aside0.mk (blk_grown (by (with_reducible repeat (first | refine blk_drewN ?_ _ | refine blk_drew ?_ | refine blk_alloc ?_ _)); exact BKg4.out) hg_ (Kd.R_ne (Kd.R_below HOp.out (by repeat (first | (with_reducible first | exact CHOp.out | apply below_alloc | apply pw_below_drewN | apply below_drew1) | exact CHOp.out))) (by (with_reducible repeat (first | refine blk_drewN ?_ _ | refine blk_drew ?_ | refine blk_alloc ?_ _)); exact BKg4.out) (by decide))); have n5_ := Aside0.mk (blk_grown (by (with_reducible repeat (first | refine blk_drewN ?_ _ | refine blk_drew ?_ | refine blk_alloc ?_ _)); exact BKg7.out) hg_ (Kd.R_ne (Kd.R_below HOp.out (by repeat (first | (with_reducible first | exact CHOp.out | apply below_alloc | apply pw_below_drewN | apply below_drew1) | exact CHOp.out))) (by (with_reducible repeat (first | refine blk_drewN ?_ _ | refine blk_drew ?_ | refine blk_alloc ?_ _)); exact BKg7.out) (by decide))); clear HB HOp CHOp BKg2 BKg4 BKg7; have HB := n0_; have HOp := n1_; have CHOp := n2_; have BKg2 := n3_; have BKg4 := n4_; have BKg7 := n5_; clear n0_ n1_ n2_ n3_ n4_ n5_; clear hO_ hB_ hg_; obtain ⟨z14_0, z14_1, z14_2, z14_3, z14_4, z14_5, z14_6, z14_7, z14_8, z14_9, z14_10, z14_11, z14_12, z14_13, z14_14, z14_15⟩ := cells_G BKg2.out; have f14_ := blk_frozen BKg2.out; obtain ⟨z15_0, z15_1, z15_2, z15_3, z15_4, z15_5, z15_6, z15_7, z15_8, z15_9, z15_10, z15_11, z15_12, z15_13, z15_14, z15_15⟩ := cells_G BKg4.out; have f15_ := blk_frozen BKg4.out; obtain ⟨z16_0, z16_1, z16_2, z16_3, z16_4, z16_5, z16_6, z16_7, z16_8, z16_9, z16_10, z16_11, z16_12, z16_13, z16_14, z16_15⟩ := cells_G BKg7.out; have f16_ := blk_frozen BKg7.out) | ((with_reducible refine gate_store (t := 31) (p := 27) rfl ?_); refine store1_event (g := g7) (i := 11) (u := (.slice R.a R.n R.c)) (cs' := (gm b win R ⟨ua, un, uc⟩)) (t := 37) rfl rfl rfl (by (with_reducible repeat (first | refine blk_drewN ?_ _ | refine blk_drew ?_ | refine blk_alloc ?_ _)); exact BKg7.out) ?hr (by rfl) ?_; (case hr => first | (go_simp; done) | (go_simp; rfl)); intro wt17_ hblk hput; have n0_ := Aside0.mk (hput.below (by repeat (first | (with_reducible first | exact HB.out | apply below_alloc | apply pw_below_drewN | apply below_drew1) | exact HB.out)) GEg7_HB.out); have n1_ := Aside0.mk (Ow.put (k := k52) (e := 52) (Kd.R_below HOp.out (by repeat (first | (with_reducible first | exact CHOp.out | apply below_alloc | apply pw_below_drewN | apply below_drew1) | exact CHOp.out))) (by (with_reducible repeat (first | refine blk_drewN ?_ _ | refine blk_drew ?_ | refine blk_alloc ?_ _)); exact BKg7.out) (by decide) hput); have n2_ := Aside0.mk (Below.refl wt17_.heap.size wt17_); have n3_ := Aside0.mk (hput.blk (by (with_reducible repeat (first | refine blk_drewN ?_ _ | refine blk_drew ?_ | refine blk_alloc ?_ _)); exact BKg2.out) NEg2_g7.out); have n4_ := Aside0.mk (hput.blk (by (with_reducible repeat (first | refine blk_drewN ?_ _ | refine blk_drew ?_ | refine blk_alloc ?_ _)); exact BKg4.out) NEg4_g7.out); have n5_ := Aside0.mk (hblk); clear HB HOp CHOp BKg2 BKg4 BKg7; have HB := n0_; have HOp := n1_; have CHOp := n2_; have BKg2 := n3_; have BKg4 := n4_; have BKg7 := n5_; clear n0_ n1_ n2_ n3_ n4_ n5_; clear hblk hput; obtain ⟨ra, rn, rc⟩ := R; have hrw := (Kd.R_reads' HOp.out); have hrn : rn = ps.length := hrw.1; obtain ⟨adr, her, -⟩ := at_P (Ow.rw_ HOp.out) (Below.refl _ _) k (of_decide_eq_true cb) (by have l_ : pn = ps.length := HR.out.len; have := hkk.out.1; show k < (rn : Int); omega); dsimp only at her; subst her; obtain ⟨adb, ado, ads⟩ := adr; have hz_ := Ow.zero HOp.out rfl; dsimp only at hz_; obtain ⟨rfl, rfl, hgo⟩ := hz_; have HGO := Aside0.mk hgo; have hkr : k < (rn : Int) := (by have l_ : pn = ps.length := HR.out.len; have := hkk.out.1; omega); have hkr1 := decide_eq_true hkr; have hkr2 := Aside0.mk hkr; replace hkr := eq_true hkr; have hrn' := Aside0.mk hrn; clear hrn hrw hgo; obtain ⟨z18_0, z18_1, z18_2, z18_3, z18_4, z18_5, z18_6, z18_7, z18_8, z18_9, z18_10, z18_11, z18_12, z18_13, z18_14, z18_15⟩ := cells_G BKg2.out; have f18_ := blk_frozen BKg2.out; obtain ⟨z19_0, z19_1, z19_2, z19_3, z19_4, z19_5, z19_6, z19_7, z19_8, z19_9, z19_10, z19_11, z19_12, z19_13, z19_14, z19_15⟩ := cells_G BKg4.out; have f19_ := blk_frozen BKg4.out; obtain ⟨z20_0, z20_1, z20_2, z20_3, z20_4, z20_5, z20_6, z20_7, z20_8, z20_9, z20_10, z20_11, z20_12, z20_13, z20_14, z20_15⟩ := cells_G BKg7.out; have f20_ := blk_frozen BKg7.out) | ((with_reducible refine gate_store (t := 4) (p := 32) rfl ?_); refine put5_event (go := adb) (n := rn) (cap := rc) (base := w.heap.size) (xs := ps) rfl rfl rfl (Kd.R_below HOp.out (by repeat (first | (with_reducible first | exact CHOp.out | apply below_alloc | apply pw_below_drewN | apply below_drew1) | exact CHOp.out))) k (of_decide_eq_true cb) hkr2.out ?hr ?_; (case hr => intro hz1_ hz2_; first | (go_simp; done) | (go_simp; rfl)); intro wp21_ hO_ hg_ hbel_; have hB_ := hbel_ w (by repeat (first | (with_reducible first | exact HB.out | apply below_alloc | apply pw_below_drewN | apply below_drew1) | exact HB.out)) HGO.out; have n0_ := Aside0.mk (hB_); have n1_ := Aside0.mk (hO_); have n2_ := Aside0.mk (Below.refl wp21_.heap.size wp21_); have n3_ := Aside0.mk (blk_grown (by (with_reducible repeat (first | refine blk_drewN ?_ _ | refine blk_drew ?_ | refine blk_alloc ?_ _)); exact BKg2.out) hg_ (Kd.R_ne (Kd.R_below HOp.out (by repeat (first | (with_reducible first | exact CHOp.out | apply below_alloc | apply pw_below_drewN | apply below_drew1) | exact CHOp.out))) (by (with_reducible repeat (first | refine blk_drewN ?_ _ | refine blk_drew ?_ | refine blk_alloc ?_ _)); exact BKg2.out) (by decide))); have n4_ := Aside0.mk (blk_grown (by (with_reducible repeat (first | refine blk_drewN ?_ _ | refine blk_drew ?_ | refine blk_alloc ?_ _)); exact BKg4.out) hg_ (Kd.R_ne (Kd.R_below HOp.out (by repeat (first | (with_reducible first | exact CHOp.out | apply below_alloc | apply pw_below_drewN | apply below_drew1) | exact CHOp.out))) (by (with_reducible repeat (first | refine blk_drewN ?_ _ | refine blk_drew ?_ | refine blk_alloc ?_ _)); exact BKg4.out) (by decide))); have n5_ := Aside0.mk (blk_grown (by (with_reducible repeat (first | refine blk_drewN ?_ _ | refine blk_drew ?_ | refine blk_alloc ?_ _)); exact BKg7.out) hg_ (Kd.R_ne (Kd.R_below HOp.out (by repeat (first | (with_reducible first | exact CHOp.out | apply below_alloc | apply pw_below_drewN | apply below_drew1) | exact CHOp.out))) (by (with_reducible repeat (first | refine blk_drewN ?_ _ | refine blk_drew ?_ | refine blk_alloc ?_ _)); exact BKg7.out) (by decide))); clear HB HOp CHOp BKg2 BKg4 BKg7; have HB := n0_; have HOp := n1_; have CHOp := n2_; have BKg2 := n3_; have BKg4 := n4_; have BKg7 := n5_; clear n0_ n1_ n2_ n3_ n4_ n5_; clear hO_ hB_ hg_ hbel_; obtain ⟨z22_0, z22_1, z22_2, z22_3, z22_4, z22_5, z22_6, z22_7, z22_8, z22_9, z22_10, z22_11, z22_12, z22_13, z22_14, z22_15⟩ := cells_G BKg2.out; have f22_ := blk_frozen BKg2.out; obtain ⟨z23_0, z23_1, z23_2, z23_3, z23_4, z23_5, z23_6, z23_7, z23_8, z23_9, z23_10, z23_11, z23_12, z23_13, z23_14, z23_15⟩ := cells_G BKg4.out; have f23_ := blk_frozen BKg4.out; obtain ⟨z24_0, z24_1, z24_2, z24_3, z24_4, z24_5, z24_6, z24_7, z24_8, z24_9, z24_10, z24_11, z24_12, z24_13, z24_14, z24_15⟩ := cells_G BKg7.out; have f24_ := blk_frozen BKg7.out) | ((with_reducible refine gate_store (t := 32) (p := 33) rfl ?_); refine store1_event (g := g7) (i := 12) (u := (.slice none 0 0)) (cs' := (gm b win ⟨some ⟨adb, 0, none⟩, rn, rc⟩ RS0)) (t := 37) rfl rfl rfl (by (with_reducible repeat (first | refine blk_drewN ?_ _ | refine blk_drew ?_ | refine blk_alloc ?_ _)); exact BKg7.out) ?hr (by rfl) ?_; (case hr => first | (go_simp; done) | (go_simp; rfl)); intro wt25_ hblk hput; have n0_ := Aside0.mk (hput.below (by repeat (first | (with_reducible first | exact HB.out | apply below_alloc | apply pw_below_drewN | apply below_drew1) | exact HB.out)) GEg7_HB.out); have n1_ := Aside0.mk (Ow.put (k := k52) (e := 52) (Kd.R_below HOp.out (by repeat (first | (with_reducible first | exact CHOp.out | apply below_alloc | apply pw_below_drewN | apply below_drew1) | exact CHOp.out))) (by (with_reducible repeat (first | refine blk_drewN ?_ _ | refine blk_drew ?_ | refine blk_alloc ?_ _)); exact BKg7.out) (by decide) hput); have n2_ := Aside0.mk (Below.refl wt25_.heap.size wt25_); have n3_ := Aside0.mk (hput.blk (by (with_reducible repeat (first | refine blk_drewN ?_ _ | refine blk_drew ?_ | refine blk_alloc ?_ _)); exact BKg2.out) NEg2_g7.out); have n4_ := Aside0.mk (hput.blk (by (with_reducible repeat (first | refine blk_drewN ?_ _ | refine blk_drew ?_ | refine blk_alloc ?_ _)); exact BKg4.out) NEg4_g7.out); have n5_ := Aside0.mk (hblk); clear HB HOp CHOp BKg2 BKg4 BKg7; have HB := n0_; have HOp := n1_; have CHOp := n2_; have BKg2 := n3_; have BKg4 := n4_; have BKg7 := n5_; clear n0_ n1_ n2_ n3_ n4_ n5_; clear hblk hput; obtain ⟨z26_0, z26_1, z26_2, z26_3, z26_4, z26_5, z26_6, z26_7, z26_8, z26_9, z26_10, z26_11, z26_12, z26_13, z26_14, z26_15⟩ := cells_G BKg2.out; have f26_ := blk_frozen BKg2.out; obtain ⟨z27_0, z27_1, z27_2, z27_3, z27_4, z27_5, z27_6, z27_7, z27_8, z27_9, z27_10, z27_11, z27_12, z27_13, z27_14, z27_15⟩ := cells_G BKg4.out; have f27_ := blk_frozen BKg4.out; obtain ⟨z28_0, z28_1, z28_2, z28_3, z28_4, z28_5, z28_6, z28_7, z28_8, z28_9, z28_10, z28_11, z28_12, z28_13, z28_14, z28_15⟩ := cells_G BKg7.out; have f28_ := blk_frozen BKg7.out))
      go_loopg [8] 200 (fun kq v8 w' => ∃ (x : Int) (U' : RS), v8 = .int .i64 x ∧ Aside0 (0 ≤ x ∧ x ≤ un ∧ (kq : Int) + x ≥ 101) ∧ Aside0 (Ow k69 69 w' w.heap.size U' ((us.take x.toNat).filter (fun u => u.f1 != a))) ∧ Aside0 (Ow k52 52 w' w.heap.size ⟨some ⟨adb, 0, none⟩, rn, rc⟩ (ps.set k.toNat ⟨(rd_T52 ps k).f0, (rd_T52 ps k).f1, (rd_T52 ps k).f2, (rd_T52 ps k).f3, (rd_T52 ps k).f4, true⟩)) ∧ Aside0 (w'.heap[g2]? = some (.cells (gm b win ⟨some ad, pn, pc⟩ ⟨ua, un, uc⟩) 37 (0, 0))) ∧ Aside0 (w'.heap[g4]? = some (.cells (gm B0 0 RS0 RS0) 37 (0, 0))) ∧ Aside0 (w'.heap[g7]? = some (.cells (gm b win ⟨some ⟨adb, 0, none⟩, rn, rc⟩ U') 37 (0, 0))) ∧ Aside0 (Below w.heap.size w w'))
      case atStart => exact ⟨0, RS0, rfl, ⟨by have := HN.out.2; omega⟩, ⟨Kd.R_nil _ _ _ _ _⟩, ⟨Kd.R_below HOp.out (by repeat (first | (with_reducible first | exact CHOp.out | apply below_alloc | apply pw_below_drewN | apply below_drew1) | exact CHOp.out))⟩, ⟨by (with_reducible repeat (first | refine blk_drewN ?_ _ | refine blk_drew ?_ | refine blk_alloc ?_ _)); exact BKg2.out⟩, ⟨by (with_reducible repeat (first | refine blk_drewN ?_ _ | refine blk_drew ?_ | refine blk_alloc ?_ _)); exact BKg4.out⟩, ⟨by (with_reducible repeat (first | refine blk_drewN ?_ _ | refine blk_drew ?_ | refine blk_alloc ?_ _)); exact BKg7.out⟩, ⟨(by repeat (first | (with_reducible first | exact HB.out | apply below_alloc | apply pw_below_drewN | apply below_drew1) | exact HB.out))⟩⟩
      case round =>
        clear HB BKg2 BKg4 BKg7 HOp CHOp
        obtain ⟨x, U', rfl, HI, HOu, HOp, BKg2, BKg4, BKg7, HB⟩ := hrel
        have CHOu := Aside0.mk (Below.refl wr.heap.size wr)
        have CHOp := Aside0.mk (Below.refl wr.heap.size wr)
        have hi := HI.out
        have hnn : un ≤ 100 := HN.out.2
        cases gk with
        | zero => exfalso; omega
        | succ k1 =>
        by_cases c4 : x < (un : Int)
        · have c4b := decide_eq_true c4
          have p0 : 0 ≤ x := hi.1
          have p0b := decide_eq_true p0
          have hw : wrap64 (x + 1) = x + 1 := wrap64_of (by omega) (by omega)
          obtain ⟨adu, heu, e0, e1, -⟩ := at_E HU.out HB.out x p0 c4
          dsimp only at heu
          subst heu
          replace p0 := eq_true p0
          have c4k := Aside0.mk c4
          replace c4 := eq_true c4
          clear hi hnn
          by_cases c6 : (rd_T69 us x).f1 = a
          · have c6k := Aside0.mk c6
            have c6b : ((rd_T69 us x).f1 != a) = false := by simp [c6]
            clear c6
            obtain ⟨z1_0, z1_1, z1_2, z1_3, z1_4, z1_5, z1_6, z1_7, z1_8, z1_9, z1_10, z1_11, z1_12, z1_13, z1_14, z1_15⟩ := cells_G BKg2.out
            have f1_ := blk_frozen BKg2.out
            obtain ⟨z2_0, z2_1, z2_2, z2_3, z2_4, z2_5, z2_6, z2_7, z2_8, z2_9, z2_10, z2_11, z2_12, z2_13, z2_14, z2_15⟩ := cells_G BKg4.out
            have f2_ := blk_frozen BKg4.out
            obtain ⟨z3_0, z3_1, z3_2, z3_3, z3_4, z3_5, z3_6, z3_7, z3_8, z3_9, z3_10, z3_11, z3_12, z3_13, z3_14, z3_15⟩ := cells_G BKg7.out
            have f3_ := blk_frozen BKg7.out
            go_wp2
            go_roundg k1
            case measure => omega
            case rel => exact ⟨x + 1, U', by first | rfl | (simp [*]; done), ⟨by have i_ := HI.out; have c_ := c4k.out; refine ⟨by omega, by omega, by omega⟩⟩, ⟨by rw [filt_no HI.out.1 (by have l3_ : un = us.length := HU.out.len; have c_ := c4k.out; omega) c6k.out]; exact Kd.R_below HOu.out (by repeat (first | (with_reducible first | exact CHOu.out | apply below_alloc | apply pw_below_drewN | apply below_drew1) | exact CHOu.out))⟩, ⟨Kd.R_below HOp.out (by repeat (first | (with_reducible first | exact CHOp.out | apply below_alloc | apply pw_below_drewN | apply below_drew1) | exact CHOp.out))⟩, ⟨by (with_reducible repeat (first | refine blk_drewN ?_ _ | refine blk_drew ?_ | refine blk_alloc ?_ _)); exact BKg2.out⟩, ⟨by (with_reducible repeat (first | refine blk_drewN ?_ _ | refine blk_drew ?_ | refine blk_alloc ?_ _)); exact BKg4.out⟩, ⟨by (with_reducible repeat (first | refine blk_drewN ?_ _ | refine blk_drew ?_ | refine blk_alloc ?_ _)); exact BKg7.out⟩, ⟨(by repeat (first | (with_reducible first | exact HB.out | apply below_alloc | apply pw_below_drewN | apply below_drew1) | exact HB.out))⟩⟩
          · have c6k := Aside0.mk c6
            have c6b : ((rd_T69 us x).f1 != a) = true := by simp [c6]
            clear c6
            obtain ⟨z1_0, z1_1, z1_2, z1_3, z1_4, z1_5, z1_6, z1_7, z1_8, z1_9, z1_10, z1_11, z1_12, z1_13, z1_14, z1_15⟩ := cells_G BKg2.out
            have f1_ := blk_frozen BKg2.out
            obtain ⟨z2_0, z2_1, z2_2, z2_3, z2_4, z2_5, z2_6, z2_7, z2_8, z2_9, z2_10, z2_11, z2_12, z2_13, z2_14, z2_15⟩ := cells_G BKg4.out
            have f2_ := blk_frozen BKg4.out
            obtain ⟨z3_0, z3_1, z3_2, z3_3, z3_4, z3_5, z3_6, z3_7, z3_8, z3_9, z3_10, z3_11, z3_12, z3_13, z3_14, z3_15⟩ := cells_G BKg7.out
            have f3_ := blk_frozen BKg7.out
            try go_wp2
            have n0_ := Aside0.mk (blk_drew BKg2.out)
            clear BKg2
            have BKg2 := n0_
            clear n0_
            have n0_ := Aside0.mk (blk_drew BKg4.out)
            clear BKg4
            have BKg4 := n0_
            clear n0_
            have n0_ := Aside0.mk (blk_drew BKg7.out)
            clear BKg7
            have BKg7 := n0_
            clear n0_
            have n0_ := Aside0.mk (below_drew1 (by repeat (first | (with_reducible first | exact HB.out | apply below_alloc | apply pw_below_drewN | apply below_drew1) | exact HB.out)))
            clear HB
            have HB := n0_
            clear n0_
            have n0_ := Aside0.mk (below_drew1 (by repeat (first | (with_reducible first | exact CHOu.out | apply below_alloc | apply pw_below_drewN | apply below_drew1) | exact CHOu.out)))
            clear CHOu
            have CHOu := n0_
            clear n0_
            have n0_ := Aside0.mk (below_drew1 (by repeat (first | (with_reducible first | exact CHOp.out | apply below_alloc | apply pw_below_drewN | apply below_drew1) | exact CHOp.out)))
            clear CHOp
            have CHOp := n0_
            clear n0_
            refine start_ (n := 11) (S := (fun w' => Below w.heap.size w w' ∧ w'.heap[g2]? = some (.cells (gm b win ⟨some ad, pn, pc⟩ ⟨some adu, un, uc⟩) 37 (0, 0)) ∧ w'.heap[g7]? = some (.cells (gm b win ⟨some ⟨adb, 0, none⟩, rn, rc⟩ U') 37 (0, 0)))) (ds := [10]) #[false, false, false, false, false, false, false, false, false, false, false] (by kernel_rfl) rfl rfl ⟨(by repeat (first | (with_reducible first | exact HB.out | apply below_alloc | apply pw_below_drewN | apply below_drew1) | exact HB.out)), by (with_reducible repeat (first | refine blk_drewN ?_ _ | refine blk_drew ?_ | refine blk_alloc ?_ _)); exact BKg2.out, by (with_reducible repeat (first | refine blk_drewN ?_ _ | refine blk_drew ?_ | refine blk_alloc ?_ _)); exact BKg7.out⟩ (fun hHeld => ?_)
            generalize wr.drew = wr2_ at BKg2 BKg4 BKg7 HB CHOu CHOp hHeld ⊢
            refine pure_ (i := 0) (N := some 49) (v := ?_) (a' := ?_) #[true, false, false, false, false, false, false, false, false, false, false] rfl rfl (by kernel_rfl) (fun _ _ _ h => h) (Or.inl ⟨by rfl, ?_⟩) ?_ ?_
            rotate_left
            · intro w'
              go_simp
              with_reducible rfl
            rotate_left
            · simp only [Act.put, List.setIfInBounds_toArray, List.set_cons_zero, List.set_cons_succ, i64_w, i32_w]
              rfl
            refine pure_ (i := 2) (N := some 51) (v := ?_) (a' := ?_) #[true, false, true, false, false, false, false, false, false, false, false] rfl rfl (by kernel_rfl) (fun _ _ _ h => h) (Or.inl ⟨by rfl, ?_⟩) ?_ ?_
            rotate_left
            · intro w'
              go_simp
              with_reducible rfl
            rotate_left
            · simp only [Act.put, List.setIfInBounds_toArray, List.set_cons_zero, List.set_cons_succ, i64_w, i32_w]
              rfl
            refine pure_ (i := 4) (N := some 53) (v := ?_) (a' := ?_) #[true, false, true, false, true, false, false, false, false, false, false] rfl rfl (by kernel_rfl) (fun _ _ _ h => h) (Or.inl ⟨by rfl, ?_⟩) ?_ ?_
            rotate_left
            · intro w'
              go_simp
              with_reducible rfl
            rotate_left
            · simp only [Act.put, List.setIfInBounds_toArray, List.set_cons_zero, List.set_cons_succ, i64_w, i32_w]
              rfl
            refine take_ (i := 1) (N := some 50) (v := ?_) (a' := ?_) #[true, true, true, false, true, false, false, false, false, false, false] rfl rfl (by kernel_rfl) (fun _ _ _ h => h) (Or.inl ⟨by rfl, ?_⟩) hHeld ?_ ?_
            rotate_left
            · rintro w' s_
              obtain ⟨z_0, z_1, z_2, z_3, z_4, z_5, z_6, z_7, z_8, z_9, z_10, z_11, z_12, z_13, z_14, z_15⟩ := cells_G s_.2.2
              go_simp
              with_reducible rfl
            rotate_left
            · simp only [Act.put, List.setIfInBounds_toArray, List.set_cons_zero, List.set_cons_succ, i64_w, i32_w]
              rfl
            refine take_ (i := 3) (N := some 52) (v := ?_) (a' := ?_) #[true, true, true, true, true, false, false, false, false, false, false] rfl rfl (by kernel_rfl) (fun _ _ _ h => h) (Or.inl ⟨by rfl, ?_⟩) hHeld ?_ ?_
            rotate_left
            · rintro w' s_
              obtain ⟨z_0, z_1, z_2, z_3, z_4, z_5, z_6, z_7, z_8, z_9, z_10, z_11, z_12, z_13, z_14, z_15⟩ := cells_G s_.2.1
              go_simp
              with_reducible rfl
            rotate_left
            · simp only [Act.put, List.setIfInBounds_toArray, List.set_cons_zero, List.set_cons_succ, i64_w, i32_w]
              rfl
            refine pure_ (i := 5) (N := some 54) (v := ?_) (a' := ?_) #[true, true, true, true, true, true, false, false, false, false, false] rfl rfl (by kernel_rfl) (fun _ _ _ h => h) (Or.inl ⟨by rfl, ?_⟩) ?_ ?_
            rotate_left
            · intro w'
              go_simp
              with_reducible rfl
            rotate_left
            · simp only [Act.put, List.setIfInBounds_toArray, List.set_cons_zero, List.set_cons_succ, i64_w, i32_w]
              rfl
            refine take_ (i := 6) (N := some 55) (v := ?_) (a' := ?_) #[true, true, true, true, true, true, true, false, false, false, false] rfl rfl (by kernel_rfl) (fun _ _ _ h => h) (Or.inl ⟨by rfl, ?_⟩) hHeld ?_ ?_
            rotate_left
            · intro w' s_
              refine at_load_E HU.out s_.1 x HI.out.1 c4k.out adu rfl (.tmp 54) ?h1_ ?h2_
              case h1_ => first | rfl | exact rfl | kernel_rfl
              case h2_ => first | rfl | exact rfl | kernel_rfl
            rotate_left
            · simp only [Act.put, List.setIfInBounds_toArray, List.set_cons_zero, List.set_cons_succ, i64_w, i32_w]
              rfl
            refine one_ (i := 7) (N := some 56) #[true, true, true, true, true, true, true, true, false, false, false] rfl rfl (by kernel_rfl) (by decide) (fun K hK => ?_)
            refine event_step (v := .slice (some ⟨wr2_.heap.size, 0, none⟩) 1 1) (w1 := World.alloc wr2_ (.cells (en (rd_T69 us x)) 69 (0, 0))) (by rfl) (by first | (go_simp; done) | (go_simp; rfl)) ?_
            refine hK.out _ _ ⟨(by repeat (first | (with_reducible first | exact HB.out | apply below_alloc | apply pw_below_drewN | apply below_drew1) | exact HB.out)), by (with_reducible repeat (first | refine blk_drewN ?_ _ | refine blk_drew ?_ | refine blk_alloc ?_ _)); exact BKg2.out, by (with_reducible repeat (first | refine blk_drewN ?_ _ | refine blk_drew ?_ | refine blk_alloc ?_ _)); exact BKg7.out⟩ (fun hHeld => ?_)
            clear hK K
            refine norm_ (a' := ?_) ?_ ?_
            rotate_left
            · show Act.put _ (some 56) _ = _
              simp only [Act.put, List.setIfInBounds_toArray, List.set_cons_zero, List.set_cons_succ, i64_w, i32_w]
              rfl
            refine one_ (i := 8) (N := some 57) #[true, true, true, true, true, true, true, true, true, false, false] rfl rfl (by kernel_rfl) (by decide) (fun K hK => ?_)
            refine app69_step (w := w) (R := U') (xs := ((us.take x.toNat).filter (fun u => u.f1 != a))) (by rfl) (.tmp 50) (.tmp 56) (by first | rfl | exact rfl | kernel_rfl) (rd_T69 us x) rfl (by first | (go_simp; done) | (go_simp; rfl)) (Kd.R_below HOu.out (by repeat (first | (with_reducible first | exact CHOu.out | apply below_alloc | apply pw_below_drewN | apply below_drew1) | exact CHOu.out))) (by repeat (first | (with_reducible first | exact HB.out | apply below_alloc | apply pw_below_drewN | apply below_drew1) | exact HB.out)) (by have l_ := List.length_filter_le (fun u : S69 => u.f1 != a) (us.take x.toNat); have l2_ := (List.take_sublist x.toNat us).length_le; have l3_ : un = us.length := HU.out.len; have l4_ : un ≤ 100 := HN.out.2; omega) ?_
            intro U2 wa1_ hO_ hB_ hg_
            have n0_ := Aside0.mk (hB_)
            have n1_ := Aside0.mk (hO_)
            have n2_ := Aside0.mk (Below.refl wa1_.heap.size wa1_)
            have n3_ := Aside0.mk (Ow.grown (k := k52) (e := 52) (Kd.R_below HOp.out (by repeat (first | (with_reducible first | exact CHOp.out | apply below_alloc | apply pw_below_drewN | apply below_drew1) | exact CHOp.out))) (Kd.R_below HOu.out (by repeat (first | (with_reducible first | exact CHOu.out | apply below_alloc | apply pw_below_drewN | apply below_drew1) | exact CHOu.out))) hg_ (by decide))
            have n4_ := Aside0.mk (Below.refl wa1_.heap.size wa1_)
            have n5_ := Aside0.mk (blk_grown (by (with_reducible repeat (first | refine blk_drewN ?_ _ | refine blk_drew ?_ | refine blk_alloc ?_ _)); exact BKg2.out) hg_ (Kd.R_ne (Kd.R_below HOu.out (by repeat (first | (with_reducible first | exact CHOu.out | apply below_alloc | apply pw_below_drewN | apply below_drew1) | exact CHOu.out))) (by (with_reducible repeat (first | refine blk_drewN ?_ _ | refine blk_drew ?_ | refine blk_alloc ?_ _)); exact BKg2.out) (by decide)))
            have n6_ := Aside0.mk (blk_grown (by (with_reducible repeat (first | refine blk_drewN ?_ _ | refine blk_drew ?_ | refine blk_alloc ?_ _)); exact BKg4.out) hg_ (Kd.R_ne (Kd.R_below HOu.out (by repeat (first | (with_reducible first | exact CHOu.out | apply below_alloc | apply pw_below_drewN | apply below_drew1) | exact CHOu.out))) (by (with_reducible repeat (first | refine blk_drewN ?_ _ | refine blk_drew ?_ | refine blk_alloc ?_ _)); exact BKg4.out) (by decide)))
            have n7_ := Aside0.mk (blk_grown (by (with_reducible repeat (first | refine blk_drewN ?_ _ | refine blk_drew ?_ | refine blk_alloc ?_ _)); exact BKg7.out) hg_ (Kd.R_ne (Kd.R_below HOu.out (by repeat (first | (with_reducible first | exact CHOu.out | apply below_alloc | apply pw_below_drewN | apply below_drew1) | exact CHOu.out))) (by (with_reducible repeat (first | refine blk_drewN ?_ _ | refine blk_drew ?_ | refine blk_alloc ?_ _)); exact BKg7.out) (by decide)))
            clear HB HOu CHOu HOp CHOp BKg2 BKg4 BKg7
            have HB := n0_
            have HOu := n1_
            have CHOu := n2_
            have HOp := n3_
            have CHOp := n4_
            have BKg2 := n5_
            have BKg4 := n6_
            have BKg7 := n7_
            clear n0_ n1_ n2_ n3_ n4_ n5_ n6_ n7_
            clear hO_ hB_ hg_
            refine hK.out _ _ ⟨(by repeat (first | (with_reducible first | exact HB.out | apply below_alloc | apply pw_below_drewN | apply below_drew1) | exact HB.out)), by (with_reducible repeat (first | refine blk_drewN ?_ _ | refine blk_drew ?_ | refine blk_alloc ?_ _)); exact BKg2.out, by (with_reducible repeat (first | refine blk_drewN ?_ _ | refine blk_drew ?_ | refine blk_alloc ?_ _)); exact BKg7.out⟩ (fun hHeld => ?_)
            clear hK K
            refine norm_ (a' := ?_) ?_ ?_
            rotate_left
            · show Act.put _ (some 57) _ = _
              simp only [Act.put, List.setIfInBounds_toArray, List.set_cons_zero, List.set_cons_succ, i64_w, i32_w]
              rfl
            refine pure_ (i := 9) (N := some 58) (v := ?_) (a' := ?_) #[true, true, true, true, true, true, true, true, true, true, false] rfl rfl (by kernel_rfl) (fun _ _ _ h => h) (Or.inl ⟨by rfl, ?_⟩) ?_ ?_
            rotate_left
            · intro w'
              go_simp
              with_reducible rfl
            rotate_left
            · simp only [Act.put, List.setIfInBounds_toArray, List.set_cons_zero, List.set_cons_succ, i64_w, i32_w]
              rfl
            refine last_ (i := 10) (N := none) #[true, true, true, true, true, true, true, true, true, true, true] rfl rfl (by kernel_rfl) (by decide) (fun K hK => ?_)
            obtain ⟨z4_0, z4_1, z4_2, z4_3, z4_4, z4_5, z4_6, z4_7, z4_8, z4_9, z4_10, z4_11, z4_12, z4_13, z4_14, z4_15⟩ := cells_G BKg7.out
            have f4_ := blk_frozen BKg7.out
            refine store1_step (g := g7) (i := 12) (u := (.slice U2.a U2.n U2.c)) (cs' := (gm b win ⟨some ⟨adb, 0, none⟩, rn, rc⟩ U2)) (t := 37) (by rfl) (by first | rfl | exact rfl | kernel_rfl) BKg7.out ?hr (by rfl) ?_
            (case hr => first | (go_simp; done) | (go_simp; rfl))
            intro wt1_ hblk hput
            have n0_ := Aside0.mk (hput.below (by repeat (first | (with_reducible first | exact HB.out | apply below_alloc | apply pw_below_drewN | apply below_drew1) | exact HB.out)) GEg7_HB.out)
            have n1_ := Aside0.mk (Ow.put (k := k69) (e := 69) (Kd.R_below HOu.out (by repeat (first | (with_reducible first | exact CHOu.out | apply below_alloc | apply pw_below_drewN | apply below_drew1) | exact CHOu.out))) (by (with_reducible repeat (first | refine blk_drewN ?_ _ | refine blk_drew ?_ | refine blk_alloc ?_ _)); exact BKg7.out) (by decide) hput)
            have n2_ := Aside0.mk (Below.refl wt1_.heap.size wt1_)
            have n3_ := Aside0.mk (Ow.put (k := k52) (e := 52) (Kd.R_below HOp.out (by repeat (first | (with_reducible first | exact CHOp.out | apply below_alloc | apply pw_below_drewN | apply below_drew1) | exact CHOp.out))) (by (with_reducible repeat (first | refine blk_drewN ?_ _ | refine blk_drew ?_ | refine blk_alloc ?_ _)); exact BKg7.out) (by decide) hput)
            have n4_ := Aside0.mk (Below.refl wt1_.heap.size wt1_)
            have n5_ := Aside0.mk (hput.blk (by (with_reducible repeat (first | refine blk_drewN ?_ _ | refine blk_drew ?_ | refine blk_alloc ?_ _)); exact BKg2.out) NEg2_g7.out)
            have n6_ := Aside0.mk (hput.blk (by (with_reducible repeat (first | refine blk_drewN ?_ _ | refine blk_drew ?_ | refine blk_alloc ?_ _)); exact BKg4.out) NEg4_g7.out)
            have n7_ := Aside0.mk (hblk)
            clear HB HOu CHOu HOp CHOp BKg2 BKg4 BKg7
            have HB := n0_
            have HOu := n1_
            have CHOu := n2_
            have HOp := n3_
            have CHOp := n4_
            have BKg2 := n5_
            have BKg4 := n6_
            have BKg7 := n7_
            clear n0_ n1_ n2_ n3_ n4_ n5_ n6_ n7_
            clear hblk hput
            refine hK.out _ _ ?_
            clear hK K hHeld
            refine done_ (by kernel_rfl) ?_
            obtain ⟨z5_0, z5_1, z5_2, z5_3, z5_4, z5_5, z5_6, z5_7, z5_8, z5_9, z5_10, z5_11, z5_12, z5_13, z5_14, z5_15⟩ := cells_G BKg2.out
            have f5_ := blk_frozen BKg2.out
            obtain ⟨z6_0, z6_1, z6_2, z6_3, z6_4, z6_5, z6_6, z6_7, z6_8, z6_9, z6_10, z6_11, z6_12, z6_13, z6_14, z6_15⟩ := cells_G BKg4.out
            have f6_ := blk_frozen BKg4.out
            obtain ⟨z7_0, z7_1, z7_2, z7_3, z7_4, z7_5, z7_6, z7_7, z7_8, z7_9, z7_10, z7_11, z7_12, z7_13, z7_14, z7_15⟩ := cells_G BKg7.out
            have f7_ := blk_frozen BKg7.out
            go_wp2
            go_roundg k1
            case measure => omega
            case rel => exact ⟨x + 1, U2, by first | rfl | (simp [*]; done), ⟨by have i_ := HI.out; have c_ := c4k.out; refine ⟨by omega, by omega, by omega⟩⟩, ⟨by rw [filt_yes HI.out.1 (by have l3_ : un = us.length := HU.out.len; have c_ := c4k.out; omega) c6k.out]; exact Kd.R_below HOu.out (by repeat (first | (with_reducible first | exact CHOu.out | apply below_alloc | apply pw_below_drewN | apply below_drew1) | exact CHOu.out))⟩, ⟨Kd.R_below HOp.out (by repeat (first | (with_reducible first | exact CHOp.out | apply below_alloc | apply pw_below_drewN | apply below_drew1) | exact CHOp.out))⟩, ⟨by (with_reducible repeat (first | refine blk_drewN ?_ _ | refine blk_drew ?_ | refine blk_alloc ?_ _)); exact BKg2.out⟩, ⟨by (with_reducible repeat (first | refine blk_drewN ?_ _ | refine blk_drew ?_ | refine blk_alloc ?_ _)); exact BKg4.out⟩, ⟨by (with_reducible repeat (first | refine blk_drewN ?_ _ | refine blk_drew ?_ | refine blk_alloc ?_ _)); exact BKg7.out⟩, ⟨(by repeat (first | (with_reducible first | exact HB.out | apply below_alloc | apply pw_below_drewN | apply below_drew1) | exact HB.out))⟩⟩
        · have c4b := decide_eq_false c4
          have hfin : (us.take x.toNat) = us := List.take_of_length_le (by have l3_ : un = us.length := HU.out.len; omega)
          replace hfin := Aside0.mk hfin
          clear c4 hi hnn
          obtain ⟨z1_0, z1_1, z1_2, z1_3, z1_4, z1_5, z1_6, z1_7, z1_8, z1_9, z1_10, z1_11, z1_12, z1_13, z1_14, z1_15⟩ := cells_G BKg2.out
          have f1_ := blk_frozen BKg2.out
          obtain ⟨z2_0, z2_1, z2_2, z2_3, z2_4, z2_5, z2_6, z2_7, z2_8, z2_9, z2_10, z2_11, z2_12, z2_13, z2_14, z2_15⟩ := cells_G BKg4.out
          have f2_ := blk_frozen BKg4.out
          obtain ⟨z3_0, z3_1, z3_2, z3_3, z3_4, z3_5, z3_6, z3_7, z3_8, z3_9, z3_10, z3_11, z3_12, z3_13, z3_14, z3_15⟩ := cells_G BKg7.out
          have f3_ := blk_frozen BKg7.out
          go_wp2_with (first | ((with_reducible refine gate_dst (N := 59) rfl ?_); refine load_G_event rfl _ rfl rfl (by (with_reducible repeat (first | refine blk_drewN ?_ _ | refine blk_drew ?_ | refine blk_alloc ?_ _)); exact BKg7.out) ?_) | ((with_reducible refine gate_store (t := 37) (p := 4) rfl ?_); refine store_G_event (b' := b) (win' := win) (P' := ⟨some ⟨adb, 0, none⟩, rn, rc⟩) (U' := U') rfl _ _ rfl rfl rfl rfl (by (with_reducible repeat (first | refine blk_drewN ?_ _ | refine blk_drew ?_ | refine blk_alloc ?_ _)); exact BKg4.out) ?_; intro wt4_ hblk hput; have n0_ := Aside0.mk (hput.below (by repeat (first | (with_reducible first | exact HB.out | apply below_alloc | apply pw_below_drewN | apply below_drew1) | exact HB.out)) GEg4_HB.out); have n1_ := Aside0.mk (Ow.put (k := k69) (e := 69) (Kd.R_below HOu.out (by repeat (first | (with_reducible first | exact CHOu.out | apply below_alloc | apply pw_below_drewN | apply below_drew1) | exact CHOu.out))) (by (with_reducible repeat (first | refine blk_drewN ?_ _ | refine blk_drew ?_ | refine blk_alloc ?_ _)); exact BKg4.out) (by decide) hput); have n2_ := Aside0.mk (Below.refl wt4_.heap.size wt4_); have n3_ := Aside0.mk (Ow.put (k := k52) (e := 52) (Kd.R_below HOp.out (by repeat (first | (with_reducible first | exact CHOp.out | apply below_alloc | apply pw_below_drewN | apply below_drew1) | exact CHOp.out))) (by (with_reducible repeat (first | refine blk_drewN ?_ _ | refine blk_drew ?_ | refine blk_alloc ?_ _)); exact BKg4.out) (by decide) hput); have n4_ := Aside0.mk (Below.refl wt4_.heap.size wt4_); have n5_ := Aside0.mk (hput.blk (by (with_reducible repeat (first | refine blk_drewN ?_ _ | refine blk_drew ?_ | refine blk_alloc ?_ _)); exact BKg2.out) NEg2_g4.out); have n6_ := Aside0.mk (hblk); have n7_ := Aside0.mk (hput.blk (by (with_reducible repeat (first | refine blk_drewN ?_ _ | refine blk_drew ?_ | refine blk_alloc ?_ _)); exact BKg7.out) (Ne.symm NEg4_g7.out)); clear HB HOu CHOu HOp CHOp BKg2 BKg4 BKg7; have HB := n0_; have HOu := n1_; have CHOu := n2_; have HOp := n3_; have CHOp := n4_; have BKg2 := n5_; have BKg4 := n6_; have BKg7 := n7_; clear n0_ n1_ n2_ n3_ n4_ n5_ n6_ n7_; clear hblk hput))
          refine bodyPost_ret (results_ct rfl _ _ g4 37 (gm b win ⟨some ⟨adb, 0, none⟩, rn, rc⟩ U') (0, 0) _ rfl (by (with_reducible repeat (first | refine blk_drewN ?_ _ | refine blk_drew ?_ | refine blk_alloc ?_ _)); exact BKg4.out) Try.underlying37 rfl (by kernel_rfl)) rfl ?_
          exact ⟨⟨some ⟨adb, 0, none⟩, rn, rc⟩, U', rfl, Ow.rw_ (Kd.R_below HOp.out (by repeat (first | (with_reducible first | exact CHOp.out | apply below_alloc | apply pw_below_drewN | apply below_drew1) | exact CHOp.out))), by have h_ := Ow.rw_ (Kd.R_below HOu.out (by repeat (first | (with_reducible first | exact CHOu.out | apply below_alloc | apply pw_below_drewN | apply below_drew1) | exact CHOu.out))); rw [hfin.out] at h_; exact h_, (by repeat (first | (with_reducible first | exact HB.out | apply below_alloc | apply pw_below_drewN | apply below_drew1) | exact HB.out))⟩

end Go.Proofs.Ytolcofjdjbnimaa.V
