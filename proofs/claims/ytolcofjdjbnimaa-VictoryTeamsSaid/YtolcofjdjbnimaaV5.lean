/- Chapter 33: the walks of Alive, the reference's and the program's. -/
import Derived.Test.YtolcofjdjbnimaaV4
import Derived.Test.YtolcofjdjbnimaaVL
namespace Go.Proofs.Ytolcofjdjbnimaa.V
open Go.RowKit Go.Proofs.YtolcofjdjbnimaaW.PrintWords Go.Proofs.YtolcofjdjbnimaaW.PrintLast Go.Proofs.YtolcofjdjbnimaaW.PrintMore
attribute [local go_sem] max2_int min2_int max_two min_two max_three min_three max_four min_four   -- for this text's walks alone
set_option linter.unusedVariables false
set_option linter.unusedSimpArgs false

section
variable {P : Program} {ops : Array Oper} {rest : List Oper} {o : Oper} {a : Act} {Q : Exit → Act → World → Prop} {Kc : Act → World → Prop}
theorem lit_event {W : World} (hgd : o.guard = none) {N : Tmp} (_hd : o.dst = some N) {cs : Array Value} {e : TypeId} {n : Nat}
    (hrun : (execOp a.eval o).run P W = .ok (.value (.slice (some ⟨W.heap.size, 0, none⟩) n n)) (W.alloc (.cells cs e (0, 0))))
    (h : ∀ g, g = W.heap.size → ∀ w1, w1.heap[g]? = some (.cells cs e (0, 0)) → Below W.heap.size W w1 → wpList P ops Q rest (a.put o.dst (.slice (some ⟨g, 0, none⟩) n n)) w1) : wpList P ops Q (o :: rest) a W :=
  Kd.event_run hgd hrun (h _ rfl _ (blk_new W _) (below_alloc (Below.refl _ _) _))
theorem lit_step {W : World} {cs : Array Value} {e : TypeId} {n : Nat} (hw : Region.wanted o (yielded ops a.tmps) = true)
    (hrun : (execOp a.eval o).run P W = .ok (.value (.slice (some ⟨W.heap.size, 0, none⟩) n n)) (W.alloc (.cells cs e (0, 0))))
    (h : ∀ g, g = W.heap.size → ∀ w1, w1.heap[g]? = some (.cells cs e (0, 0)) → Below W.heap.size W w1 → Kc (a.put o.dst (.slice (some ⟨g, 0, none⟩) n n)) w1) : if Region.wanted o (yielded ops a.tmps) = true then Oper.wp P o a W Kc Q else Kc (a.put o.dst undef) W :=
  event_step hw hrun (h _ rfl _ (blk_new W _) (below_alloc (Below.refl _ _) _))
end
theorem cnds1 {w : World} {g : Nat} {t : TypeId} {v : Value} {p : S52 → Bool} (h : w.heap[g]? = some (.cells #[v] t (0, 0))) (hc : Cnd pl w v p) : Cnds w ⟨g, 0, none⟩ [p] := fun j hj => by
  have : j = 0 := by simpa using hj
  subst this
  exact ⟨v, (blk_cell h 0).trans rfl, hc⟩
theorem cnds2 {w : World} {g : Nat} {t : TypeId} {v v' : Value} {p p' : S52 → Bool} (h : w.heap[g]? = some (.cells #[v, v'] t (0, 0))) (hc : Cnd pl w v p) (hc' : Cnd pl w v' p') : Cnds w ⟨g, 0, none⟩ [p, p'] := fun j hj => by
  have : j = 0 ∨ j = 1 := by simp at hj; omega
  rcases this with rfl | rfl
  · exact ⟨v, (blk_cell h 0).trans rfl, hc⟩
  · exact ⟨v', (blk_cell h 1).trans rfl, hc'⟩
/-- Whether a player is not out and has an entity. -/
def aliveS (ps : List S52) (us : List S69) (a : Int) : Bool := decide (0 ≤ findS ps a) && (!(rd_T52 ps (findS ps a)).f5 && ownsS us a)
theorem findS_lt (ps : List S52) (a : Int) : findS ps a < ps.length ∧ -1 ≤ findS ps a := by
  unfold findS
  cases h : ps.findIdx? (fun p => p.f0 == a) with
  | none => simp; omega
  | some i => rw [List.findIdx?_eq_some_iff_getElem] at h; obtain ⟨hi, _⟩ := h; simp; omega
theorem fst_find (ps : List S52) (a : Int) : fstS (fun x => [fun x : S52 => x.f0 == a].all (fun p => p x)) ps = findS ps a := by
  simp only [fstS, findS, List.all_cons, List.all_nil, Bool.and_true]
  rfl

set_option maxHeartbeats 8000000 in
set_option maxRecDepth 100000 in
theorem ralive_calls (b : B) (win : Int) (P U : RS) (ps : List S52) (us : List S69) (a : Int) (w : World) (hR : Rw k52 w P ps) (hU : Rw k69 w U us) (hn : P.n ≤ 100) (hn2 : U.n ≤ 100) : Calls Try.prog 9 #[.agg (gm b win P U), .int .i64 a] w fun e w' => e = .returned (.bool (aliveS ps us a)) ∧ Below w.heap.size w w' := by
  have hu37 := Try.underlying37
  have hu71 := Try.underlying71
  obtain ⟨pa, pn, pc⟩ := P
  obtain ⟨ua, un, uc⟩ := U
  have HR := Aside0.mk hR
  have HU := Aside0.mk hU
  have HN := Aside0.mk (And.intro hn hn2)
  clear hR hU hn hn2
  have HB := Aside0.mk (Below.refl w.heap.size w)
  obtain ⟨k, hk⟩ : ∃ k, k = findS ps a := ⟨_, rfl⟩
  obtain ⟨o, ho⟩ : ∃ o, o = ownsS us a := ⟨_, rfl⟩
  have hkb : k < (pn : Int) ∧ -1 ≤ k := by have l_ : pn = ps.length := HR.out.len; have := findS_lt ps a; omega
  unfold aliveS
  rw [← hk, ← ho]
  replace hk := Aside0.mk hk
  replace ho := Aside0.mk ho
  by_cases c : 0 ≤ k
  · have cb := decide_eq_true c
    have hkk := Aside0.mk hkb
    obtain ⟨q, hq⟩ : ∃ q, q = (rd_T52 ps k).f5 := ⟨_, rfl⟩
    rw [← hq]
    replace hq := Aside0.mk hq
    have c1 := eq_true c
    have c2 : decide (k < (pn : Int)) = true := decide_eq_true hkb.1
    have c3 := eq_true hkb.1
    obtain ⟨ad, he, -⟩ := at_P HR.out HB.out k c hkb.1
    dsimp only at he
    subst he
    clear hkb
    cases q
    · go_enter Try.func9, Try.ntmps9
      go_wp2_with (first | ((with_reducible refine gate_dst (N := 2) rfl ?_); refine box_event ?hg (N := 2) ?hd (cs := (gm b win ⟨some ad, pn, pc⟩ ⟨ua, un, uc⟩)) (t := 37) ?hr ?_; (case hd => rfl); (case hg => rfl); (case hr => first | (go_simp; done) | (go_simp; rfl)); intro g2 hg wg2_ hbox hb; have GEg2 := Aside0.mk ((by rw [hg]; exact (below_size (by repeat (first | (with_reducible first | exact HB.out | apply below_alloc | apply pw_below_drewN | apply below_drew1) | exact HB.out))) : w.heap.size ≤ g2)); have n0_ := Aside0.mk (below_step (by repeat (first | (with_reducible first | exact HB.out | apply below_alloc | apply pw_below_drewN | apply below_drew1) | exact HB.out)) hb); clear HB; have HB := n0_; clear n0_; have BKg2 := Aside0.mk hbox; clear hb hbox hg; obtain ⟨z1_0, z1_1, z1_2, z1_3, z1_4, z1_5, z1_6, z1_7, z1_8, z1_9, z1_10, z1_11, z1_12, z1_13, z1_14, z1_15⟩ := cells_G BKg2.out; have f1_ := blk_frozen BKg2.out) | ((with_reducible refine gate_dst (N := 6) rfl ?_); refine load_G_event rfl _ rfl rfl (by (with_reducible repeat (first | refine blk_drewN ?_ _ | refine blk_drew ?_ | refine blk_alloc ?_ _)); exact BKg2.out) ?_) | ((with_reducible refine gate_dst (N := 21) rfl ?_); refine gate_guard (by rfl) ?_; dsimp only; refine load_G_event rfl _ rfl rfl (by (with_reducible repeat (first | refine blk_drewN ?_ _ | refine blk_drew ?_ | refine blk_alloc ?_ _)); exact BKg2.out) ?_) | (go_at_call 23; (with_reducible refine (rfind_calls b win ⟨some ad, pn, pc⟩ ⟨ua, un, uc⟩ ps a _ (by repeat (first | exact HR.out.below HB.out | refine Rw.alloc ?_ _ | refine Rw.drewN ?_ _ | refine Rw.drew ?_)) HN.out.1).mono ?_); rintro e wc_ ⟨rfl, hb⟩; have n0_ := Aside0.mk (below_step (by repeat (first | (with_reducible first | exact HB.out | apply below_alloc | apply pw_below_drewN | apply below_drew1) | exact HB.out)) hb); have n1_ := Aside0.mk (blk_below (g := g2) (o := .cells (gm b win ⟨some ad, pn, pc⟩ ⟨ua, un, uc⟩) 37 (0, 0)) (by (with_reducible repeat (first | refine blk_drewN ?_ _ | refine blk_drew ?_ | refine blk_alloc ?_ _)); exact BKg2.out) hb); clear HB BKg2; have HB := n0_; have BKg2 := n1_; clear n0_ n1_; (try clear hb); rw [← hk.out]; obtain ⟨_, he, h0, h1, h2, h3, h4, h5⟩ := at_P HR.out HB.out k (of_decide_eq_true cb) hkk.out.1; rw [← hq.out] at h5; dsimp only at he; cases he; obtain ⟨z2_0, z2_1, z2_2, z2_3, z2_4, z2_5, z2_6, z2_7, z2_8, z2_9, z2_10, z2_11, z2_12, z2_13, z2_14, z2_15⟩ := cells_G BKg2.out; have f2_ := blk_frozen BKg2.out) | (go_at_call 24; (with_reducible refine (rowns_calls b win ⟨some ad, pn, pc⟩ ⟨ua, un, uc⟩ us a _ (by repeat (first | exact HU.out.below HB.out | refine Rw.alloc ?_ _ | refine Rw.drewN ?_ _ | refine Rw.drew ?_)) HN.out.2).mono ?_); rintro e wc_ ⟨rfl, hb⟩; have n0_ := Aside0.mk (below_step (by repeat (first | (with_reducible first | exact HB.out | apply below_alloc | apply pw_below_drewN | apply below_drew1) | exact HB.out)) hb); have n1_ := Aside0.mk (blk_below (g := g2) (o := .cells (gm b win ⟨some ad, pn, pc⟩ ⟨ua, un, uc⟩) 37 (0, 0)) (by (with_reducible repeat (first | refine blk_drewN ?_ _ | refine blk_drew ?_ | refine blk_alloc ?_ _)); exact BKg2.out) hb); clear HB BKg2; have HB := n0_; have BKg2 := n1_; clear n0_ n1_; (try clear hb); rw [← ho.out]; obtain ⟨z3_0, z3_1, z3_2, z3_3, z3_4, z3_5, z3_6, z3_7, z3_8, z3_9, z3_10, z3_11, z3_12, z3_13, z3_14, z3_15⟩ := cells_G BKg2.out; have f3_ := blk_frozen BKg2.out))
      go_ret
      exact ⟨by first | rfl | (simp [*]; done), (by repeat (first | (with_reducible first | exact HB.out | apply below_alloc | apply pw_below_drewN | apply below_drew1) | exact HB.out))⟩
    · go_enter Try.func9, Try.ntmps9
      go_wp2_with (first | ((with_reducible refine gate_dst (N := 2) rfl ?_); refine box_event ?hg (N := 2) ?hd (cs := (gm b win ⟨some ad, pn, pc⟩ ⟨ua, un, uc⟩)) (t := 37) ?hr ?_; (case hd => rfl); (case hg => rfl); (case hr => first | (go_simp; done) | (go_simp; rfl)); intro g2 hg wg2_ hbox hb; have GEg2 := Aside0.mk ((by rw [hg]; exact (below_size (by repeat (first | (with_reducible first | exact HB.out | apply below_alloc | apply pw_below_drewN | apply below_drew1) | exact HB.out))) : w.heap.size ≤ g2)); have n0_ := Aside0.mk (below_step (by repeat (first | (with_reducible first | exact HB.out | apply below_alloc | apply pw_below_drewN | apply below_drew1) | exact HB.out)) hb); clear HB; have HB := n0_; clear n0_; have BKg2 := Aside0.mk hbox; clear hb hbox hg; obtain ⟨z1_0, z1_1, z1_2, z1_3, z1_4, z1_5, z1_6, z1_7, z1_8, z1_9, z1_10, z1_11, z1_12, z1_13, z1_14, z1_15⟩ := cells_G BKg2.out; have f1_ := blk_frozen BKg2.out) | ((with_reducible refine gate_dst (N := 6) rfl ?_); refine load_G_event rfl _ rfl rfl (by (with_reducible repeat (first | refine blk_drewN ?_ _ | refine blk_drew ?_ | refine blk_alloc ?_ _)); exact BKg2.out) ?_) | ((with_reducible refine gate_dst (N := 21) rfl ?_); refine gate_guard (by rfl) ?_; dsimp only; refine load_G_event rfl _ rfl rfl (by (with_reducible repeat (first | refine blk_drewN ?_ _ | refine blk_drew ?_ | refine blk_alloc ?_ _)); exact BKg2.out) ?_) | (go_at_call 23; (with_reducible refine (rfind_calls b win ⟨some ad, pn, pc⟩ ⟨ua, un, uc⟩ ps a _ (by repeat (first | exact HR.out.below HB.out | refine Rw.alloc ?_ _ | refine Rw.drewN ?_ _ | refine Rw.drew ?_)) HN.out.1).mono ?_); rintro e wc_ ⟨rfl, hb⟩; have n0_ := Aside0.mk (below_step (by repeat (first | (with_reducible first | exact HB.out | apply below_alloc | apply pw_below_drewN | apply below_drew1) | exact HB.out)) hb); have n1_ := Aside0.mk (blk_below (g := g2) (o := .cells (gm b win ⟨some ad, pn, pc⟩ ⟨ua, un, uc⟩) 37 (0, 0)) (by (with_reducible repeat (first | refine blk_drewN ?_ _ | refine blk_drew ?_ | refine blk_alloc ?_ _)); exact BKg2.out) hb); clear HB BKg2; have HB := n0_; have BKg2 := n1_; clear n0_ n1_; (try clear hb); rw [← hk.out]; obtain ⟨_, he, h0, h1, h2, h3, h4, h5⟩ := at_P HR.out HB.out k (of_decide_eq_true cb) hkk.out.1; rw [← hq.out] at h5; dsimp only at he; cases he; obtain ⟨z2_0, z2_1, z2_2, z2_3, z2_4, z2_5, z2_6, z2_7, z2_8, z2_9, z2_10, z2_11, z2_12, z2_13, z2_14, z2_15⟩ := cells_G BKg2.out; have f2_ := blk_frozen BKg2.out) | (go_at_call 24; (with_reducible refine (rowns_calls b win ⟨some ad, pn, pc⟩ ⟨ua, un, uc⟩ us a _ (by repeat (first | exact HU.out.below HB.out | refine Rw.alloc ?_ _ | refine Rw.drewN ?_ _ | refine Rw.drew ?_)) HN.out.2).mono ?_); rintro e wc_ ⟨rfl, hb⟩; have n0_ := Aside0.mk (below_step (by repeat (first | (with_reducible first | exact HB.out | apply below_alloc | apply pw_below_drewN | apply below_drew1) | exact HB.out)) hb); have n1_ := Aside0.mk (blk_below (g := g2) (o := .cells (gm b win ⟨some ad, pn, pc⟩ ⟨ua, un, uc⟩) 37 (0, 0)) (by (with_reducible repeat (first | refine blk_drewN ?_ _ | refine blk_drew ?_ | refine blk_alloc ?_ _)); exact BKg2.out) hb); clear HB BKg2; have HB := n0_; have BKg2 := n1_; clear n0_ n1_; (try clear hb); rw [← ho.out]; obtain ⟨z3_0, z3_1, z3_2, z3_3, z3_4, z3_5, z3_6, z3_7, z3_8, z3_9, z3_10, z3_11, z3_12, z3_13, z3_14, z3_15⟩ := cells_G BKg2.out; have f3_ := blk_frozen BKg2.out))
      go_ret
      exact ⟨by first | rfl | (simp [*]; done), (by repeat (first | (with_reducible first | exact HB.out | apply below_alloc | apply pw_below_drewN | apply below_drew1) | exact HB.out))⟩
  · have cb := decide_eq_false c
    clear hkb
    go_enter Try.func9, Try.ntmps9
    go_wp2_with (first | ((with_reducible refine gate_dst (N := 2) rfl ?_); refine box_event ?hg (N := 2) ?hd (cs := (gm b win ⟨pa, pn, pc⟩ ⟨ua, un, uc⟩)) (t := 37) ?hr ?_; (case hd => rfl); (case hg => rfl); (case hr => first | (go_simp; done) | (go_simp; rfl)); intro g2 hg wg2_ hbox hb; have GEg2 := Aside0.mk ((by rw [hg]; exact (below_size (by repeat (first | (with_reducible first | exact HB.out | apply below_alloc | apply pw_below_drewN | apply below_drew1) | exact HB.out))) : w.heap.size ≤ g2)); have n0_ := Aside0.mk (below_step (by repeat (first | (with_reducible first | exact HB.out | apply below_alloc | apply pw_below_drewN | apply below_drew1) | exact HB.out)) hb); clear HB; have HB := n0_; clear n0_; have BKg2 := Aside0.mk hbox; clear hb hbox hg; obtain ⟨z1_0, z1_1, z1_2, z1_3, z1_4, z1_5, z1_6, z1_7, z1_8, z1_9, z1_10, z1_11, z1_12, z1_13, z1_14, z1_15⟩ := cells_G BKg2.out; have f1_ := blk_frozen BKg2.out) | ((with_reducible refine gate_dst (N := 6) rfl ?_); refine load_G_event rfl _ rfl rfl (by (with_reducible repeat (first | refine blk_drewN ?_ _ | refine blk_drew ?_ | refine blk_alloc ?_ _)); exact BKg2.out) ?_) | (go_at_call 23; (with_reducible refine (rfind_calls b win ⟨pa, pn, pc⟩ ⟨ua, un, uc⟩ ps a _ (by repeat (first | exact HR.out.below HB.out | refine Rw.alloc ?_ _ | refine Rw.drewN ?_ _ | refine Rw.drew ?_)) HN.out.1).mono ?_); rintro e wc_ ⟨rfl, hb⟩; have n0_ := Aside0.mk (below_step (by repeat (first | (with_reducible first | exact HB.out | apply below_alloc | apply pw_below_drewN | apply below_drew1) | exact HB.out)) hb); have n1_ := Aside0.mk (blk_below (g := g2) (o := .cells (gm b win ⟨pa, pn, pc⟩ ⟨ua, un, uc⟩) 37 (0, 0)) (by (with_reducible repeat (first | refine blk_drewN ?_ _ | refine blk_drew ?_ | refine blk_alloc ?_ _)); exact BKg2.out) hb); clear HB BKg2; have HB := n0_; have BKg2 := n1_; clear n0_ n1_; (try clear hb); rw [← hk.out]; obtain ⟨z2_0, z2_1, z2_2, z2_3, z2_4, z2_5, z2_6, z2_7, z2_8, z2_9, z2_10, z2_11, z2_12, z2_13, z2_14, z2_15⟩ := cells_G BKg2.out; have f2_ := blk_frozen BKg2.out))
    go_ret
    exact ⟨by first | rfl | (simp [*]; done), (by repeat (first | (with_reducible first | exact HB.out | apply below_alloc | apply pw_below_drewN | apply below_drew1) | exact HB.out))⟩

set_option maxHeartbeats 8000000 in
set_option maxRecDepth 100000 in
theorem alive_calls (b : B) (win : Int) (P U : RS) (ps : List S52) (us : List S69) (a : Int) (w : World) (hR : Rw k52 w P ps) (hU : Rw k69 w U us) (hn : P.n ≤ 100) (hn2 : U.n ≤ 100) : Calls Try.prog 8 #[.agg (gm b win P U), .int .i64 a] w fun e w' => e = .returned (.bool (aliveS ps us a)) ∧ Below w.heap.size w w' := by
  have hu37 := Try.underlying37
  have hu71 := Try.underlying71
  obtain ⟨pa, pn, pc⟩ := P
  obtain ⟨ua, un, uc⟩ := U
  have HR := Aside0.mk hR
  have HU := Aside0.mk hU
  have HN := Aside0.mk (And.intro hn hn2)
  clear hR hU hn hn2
  have HB := Aside0.mk (Below.refl w.heap.size w)
  obtain ⟨k, hk⟩ : ∃ k, k = findS ps a := ⟨_, rfl⟩
  obtain ⟨o, ho⟩ : ∃ o, o = ownsS us a := ⟨_, rfl⟩
  have hkb : k < (pn : Int) ∧ -1 ≤ k := by have l_ : pn = ps.length := HR.out.len; have := findS_lt ps a; omega
  unfold aliveS
  rw [← hk, ← ho]
  replace hk := Aside0.mk hk
  replace ho := Aside0.mk ho
  by_cases c : 0 ≤ k
  · have cb := decide_eq_true c
    have hkk := Aside0.mk hkb
    obtain ⟨q, hq⟩ : ∃ q, q = (rd_T52 ps k).f5 := ⟨_, rfl⟩
    rw [← hq]
    replace hq := Aside0.mk hq
    have c1 := eq_true c
    have c2 : decide (k < (pn : Int)) = true := decide_eq_true hkb.1
    have c3 := eq_true hkb.1
    obtain ⟨ad, he, -⟩ := at_P HR.out HB.out k c hkb.1
    dsimp only at he
    subst he
    clear hkb
    cases q
    · go_enter Try.func8, Try.ntmps8
      try go_wp2_with (first | ((with_reducible refine gate_dst (N := 2) rfl ?_); refine box_event ?hg (N := 2) ?hd (cs := (gm b win ⟨some ad, pn, pc⟩ ⟨ua, un, uc⟩)) (t := 37) ?hr ?_; (case hd => rfl); (case hg => rfl); (case hr => first | (go_simp; done) | (go_simp; rfl)); intro g2 hg wg2_ hbox hb; have GEg2 := Aside0.mk ((by rw [hg]; exact (below_size (by repeat (first | (with_reducible first | exact HB.out | apply below_alloc | apply pw_below_drewN | apply below_drew1) | exact HB.out))) : w.heap.size ≤ g2)); have n0_ := Aside0.mk (below_step (by repeat (first | (with_reducible first | exact HB.out | apply below_alloc | apply pw_below_drewN | apply below_drew1) | exact HB.out)) hb); clear HB; have HB := n0_; clear n0_; have BKg2 := Aside0.mk hbox; clear hb hbox hg))
      have n0_ := Aside0.mk (blk_drew BKg2.out)
      clear BKg2
      have BKg2 := n0_
      clear n0_
      have n0_ := Aside0.mk (below_drew1 (by repeat (first | (with_reducible first | exact HB.out | apply below_alloc | apply pw_below_drewN | apply below_drew1) | exact HB.out)))
      clear HB
      have HB := n0_
      clear n0_
      refine start_ (n := 6) (S := (fun w' => w'.heap[g2]? = some (.cells (gm b win ⟨some ad, pn, pc⟩ ⟨ua, un, uc⟩) 37 (0, 0)))) (ds := []) #[false, false, false, false, false, false] (by kernel_rfl) rfl rfl BKg2.out (fun hHeld => ?_)
      refine take_ (i := 0) (N := some 6) (v := ?_) (a' := ?_) #[true, false, false, false, false, false] rfl rfl (by kernel_rfl) (fun _ _ _ h => h) (Or.inl ⟨by rfl, ?_⟩) hHeld ?_ ?_
      rotate_left
      · intro w' s_
        refine load_G s_ ?x_ ?h1_ ?h2_
        case h1_ => rfl
        case h2_ => rfl
      rotate_left
      · simp only [Act.put, List.setIfInBounds_toArray, List.set_cons_zero, List.set_cons_succ, i64_w, i32_w]
        rfl
      refine pure_ (i := 1) (N := some 7) (v := ?_) (a' := ?_) #[true, true, false, false, false, false] rfl rfl (by kernel_rfl) (fun _ _ _ h => h) (Or.inl ⟨by rfl, ?_⟩) ?_ ?_
      rotate_left
      · intro w'
        go_simp
        with_reducible rfl
      rotate_left
      · simp only [Act.put, List.setIfInBounds_toArray, List.set_cons_zero, List.set_cons_succ, i64_w, i32_w]
        rfl
      refine one_ (i := 2) (N := some 8) #[true, true, true, false, false, false] rfl rfl (by kernel_rfl) (by decide) (fun K hK => ?_)
      refine goes_ Try.func21 (by kernel_rfl) rfl #[.int .i64 a] (by rfl) rfl rfl (by (try simp only [List.map_toArray, List.map_cons, List.map_nil]); first | done | rfl | (simp only [List.length_drop, List.length_take]; rfl)) ?_
      with_reducible refine (numbered_calls a _).mono ?_
      rintro e wc2_ ⟨gv, rfl, hcv, hb⟩
      refine ⟨_, rfl, ?_⟩
      have n0_ := Aside0.mk (below_step (by repeat (first | (with_reducible first | exact HB.out | apply below_alloc | apply pw_below_drewN | apply below_drew1) | exact HB.out)) hb)
      have n1_ := Aside0.mk (blk_below (g := g2) (o := .cells (gm b win ⟨some ad, pn, pc⟩ ⟨ua, un, uc⟩) 37 (0, 0)) (by (with_reducible repeat (first | refine blk_drewN ?_ _ | refine blk_drew ?_ | refine blk_alloc ?_ _)); exact BKg2.out) hb)
      clear HB BKg2
      have HB := n0_
      have BKg2 := n1_
      clear n0_ n1_
      (try clear hb)
      replace hcv := Aside0.mk hcv
      refine hK.out _ _ (by (with_reducible repeat (first | refine blk_drewN ?_ _ | refine blk_drew ?_ | refine blk_alloc ?_ _)); exact BKg2.out) (fun hHeld => ?_)
      clear hK K
      refine norm_ (a' := ?_) ?_ ?_
      rotate_left
      · show Act.put _ (some 8) _ = _
        simp only [Act.put, List.setIfInBounds_toArray, List.set_cons_zero, List.set_cons_succ, i64_w, i32_w]
        rfl
      refine one_ (i := 3) (N := some 9) #[true, true, true, true, false, false] rfl rfl (by kernel_rfl) (by decide) (fun K hK => ?_)
      refine lit_step (cs := #[.func (.func 32) #[] #[.pointer (some ⟨gv, 0, none⟩)]]) (e := 57) (n := 1) (by rfl) (by first | (go_simp; done) | (go_simp; rfl)) ?_
      intro g9 hg wg9_ hbox hb
      replace hcv := Aside0.mk (hcv.out.below hb)
      have n0_ := Aside0.mk (below_step (by repeat (first | (with_reducible first | exact HB.out | apply below_alloc | apply pw_below_drewN | apply below_drew1) | exact HB.out)) hb)
      have n1_ := Aside0.mk (blk_below (g := g2) (o := .cells (gm b win ⟨some ad, pn, pc⟩ ⟨ua, un, uc⟩) 37 (0, 0)) (by (with_reducible repeat (first | refine blk_drewN ?_ _ | refine blk_drew ?_ | refine blk_alloc ?_ _)); exact BKg2.out) hb)
      clear HB BKg2
      have HB := n0_
      have BKg2 := n1_
      clear n0_ n1_
      have BKg9 := Aside0.mk hbox
      clear hb hbox hg
      refine hK.out _ _ (by (with_reducible repeat (first | refine blk_drewN ?_ _ | refine blk_drew ?_ | refine blk_alloc ?_ _)); exact BKg2.out) (fun hHeld => ?_)
      clear hK K
      refine norm_ (a' := ?_) ?_ ?_
      rotate_left
      · show Act.put _ (some 9) _ = _
        simp only [Act.put, List.setIfInBounds_toArray, List.set_cons_zero, List.set_cons_succ, i64_w, i32_w]
        rfl
      refine one_ (i := 4) (N := some 10) #[true, true, true, true, true, false] rfl rfl (by kernel_rfl) (by decide) (fun K hK => ?_)
      refine goes_ Try.func20 (by kernel_rfl) rfl #[.agg (gm b win ⟨some ad, pn, pc⟩ ⟨ua, un, uc⟩), .slice (some ⟨g9, 0, none⟩) 1 1] (by rfl) rfl rfl (by (try simp only [List.map_toArray, List.map_cons, List.map_nil]); first | done | rfl | (simp only [List.length_drop, List.length_take]; rfl)) ?_
      with_reducible refine (find_calls b win ⟨some ad, pn, pc⟩ ⟨ua, un, uc⟩ ps ⟨g9, 0, none⟩ 1 1 _ _ (by repeat (first | exact HR.out.below HB.out | refine Rw.alloc ?_ _ | refine Rw.drewN ?_ _ | refine Rw.drew ?_)) HN.out.1 (cnds1 BKg9.out hcv.out) rfl (by decide)).mono ?_
      rintro e wc4_ ⟨rfl, hb⟩
      refine ⟨_, rfl, ?_⟩
      have n0_ := Aside0.mk (below_step (by repeat (first | (with_reducible first | exact HB.out | apply below_alloc | apply pw_below_drewN | apply below_drew1) | exact HB.out)) hb)
      have n1_ := Aside0.mk (blk_below (g := g2) (o := .cells (gm b win ⟨some ad, pn, pc⟩ ⟨ua, un, uc⟩) 37 (0, 0)) (by (with_reducible repeat (first | refine blk_drewN ?_ _ | refine blk_drew ?_ | refine blk_alloc ?_ _)); exact BKg2.out) hb)
      have n2_ := Aside0.mk (blk_below (g := g9) (o := .cells #[.func (.func 32) #[] #[.pointer (some ⟨gv, 0, none⟩)]] 57 (0, 0)) (by (with_reducible repeat (first | refine blk_drewN ?_ _ | refine blk_drew ?_ | refine blk_alloc ?_ _)); exact BKg9.out) hb)
      clear HB BKg2 BKg9
      have HB := n0_
      have BKg2 := n1_
      have BKg9 := n2_
      clear n0_ n1_ n2_
      (try clear hb)
      rw [fst_find, ← hk.out]
      refine hK.out _ _ (by (with_reducible repeat (first | refine blk_drewN ?_ _ | refine blk_drew ?_ | refine blk_alloc ?_ _)); exact BKg2.out) (fun hHeld => ?_)
      clear hK K
      refine norm_ (a' := ?_) ?_ ?_
      rotate_left
      · show Act.put _ (some 10) _ = _
        simp only [Act.put, List.setIfInBounds_toArray, List.set_cons_zero, List.set_cons_succ, i64_w, i32_w]
        rfl
      refine pure_ (i := 5) (N := some 5) (v := ?_) (a' := ?_) #[true, true, true, true, true, true] rfl rfl (by kernel_rfl) (fun _ _ _ h => h) (Or.inl ⟨by rfl, ?_⟩) ?_ ?_
      rotate_left
      · intro w'
        go_simp
        with_reducible rfl
      rotate_left
      · simp only [Act.put, List.setIfInBounds_toArray, List.set_cons_zero, List.set_cons_succ, i64_w, i32_w]
        rfl
      refine done_ (by kernel_rfl) ?_
      obtain ⟨z1_0, z1_1, z1_2, z1_3, z1_4, z1_5, z1_6, z1_7, z1_8, z1_9, z1_10, z1_11, z1_12, z1_13, z1_14, z1_15⟩ := cells_G BKg2.out
      have f1_ := blk_frozen BKg2.out
      obtain ⟨_, he, h0, h1, h2, h3, h4, h5⟩ := at_P HR.out HB.out k (of_decide_eq_true cb) hkk.out.1
      rw [← hq.out] at h5
      dsimp only at he
      cases he
      go_wp2_with (first | ((with_reducible refine gate_dst (N := 23) rfl ?_); refine gate_guard (by rfl) ?_; dsimp only; refine load_G_event rfl _ rfl rfl (by (with_reducible repeat (first | refine blk_drewN ?_ _ | refine blk_drew ?_ | refine blk_alloc ?_ _)); exact BKg2.out) ?_) | (go_at_call 22; (with_reducible refine (owns_calls b win ⟨some ad, pn, pc⟩ ⟨ua, un, uc⟩ us a _ (by repeat (first | exact HU.out.below HB.out | refine Rw.alloc ?_ _ | refine Rw.drewN ?_ _ | refine Rw.drew ?_)) HN.out.2).mono ?_); rintro e wc_ ⟨rfl, hb⟩; have n0_ := Aside0.mk (below_step (by repeat (first | (with_reducible first | exact HB.out | apply below_alloc | apply pw_below_drewN | apply below_drew1) | exact HB.out)) hb); have n1_ := Aside0.mk (blk_below (g := g2) (o := .cells (gm b win ⟨some ad, pn, pc⟩ ⟨ua, un, uc⟩) 37 (0, 0)) (by (with_reducible repeat (first | refine blk_drewN ?_ _ | refine blk_drew ?_ | refine blk_alloc ?_ _)); exact BKg2.out) hb); clear HB BKg2; have HB := n0_; have BKg2 := n1_; clear n0_ n1_; (try clear hb); rw [← ho.out]; obtain ⟨z2_0, z2_1, z2_2, z2_3, z2_4, z2_5, z2_6, z2_7, z2_8, z2_9, z2_10, z2_11, z2_12, z2_13, z2_14, z2_15⟩ := cells_G BKg2.out; have f2_ := blk_frozen BKg2.out))
      go_ret
      exact ⟨by first | rfl | (simp [*]; done), (by repeat (first | (with_reducible first | exact HB.out | apply below_alloc | apply pw_below_drewN | apply below_drew1) | exact HB.out))⟩
    · go_enter Try.func8, Try.ntmps8
      try go_wp2_with (first | ((with_reducible refine gate_dst (N := 2) rfl ?_); refine box_event ?hg (N := 2) ?hd (cs := (gm b win ⟨some ad, pn, pc⟩ ⟨ua, un, uc⟩)) (t := 37) ?hr ?_; (case hd => rfl); (case hg => rfl); (case hr => first | (go_simp; done) | (go_simp; rfl)); intro g2 hg wg2_ hbox hb; have GEg2 := Aside0.mk ((by rw [hg]; exact (below_size (by repeat (first | (with_reducible first | exact HB.out | apply below_alloc | apply pw_below_drewN | apply below_drew1) | exact HB.out))) : w.heap.size ≤ g2)); have n0_ := Aside0.mk (below_step (by repeat (first | (with_reducible first | exact HB.out | apply below_alloc | apply pw_below_drewN | apply below_drew1) | exact HB.out)) hb); clear HB; have HB := n0_; clear n0_; have BKg2 := Aside0.mk hbox; clear hb hbox hg))
      have n0_ := Aside0.mk (blk_drew BKg2.out)
      clear BKg2
      have BKg2 := n0_
      clear n0_
      have n0_ := Aside0.mk (below_drew1 (by repeat (first | (with_reducible first | exact HB.out | apply below_alloc | apply pw_below_drewN | apply below_drew1) | exact HB.out)))
      clear HB
      have HB := n0_
      clear n0_
      refine start_ (n := 6) (S := (fun w' => w'.heap[g2]? = some (.cells (gm b win ⟨some ad, pn, pc⟩ ⟨ua, un, uc⟩) 37 (0, 0)))) (ds := []) #[false, false, false, false, false, false] (by kernel_rfl) rfl rfl BKg2.out (fun hHeld => ?_)
      refine take_ (i := 0) (N := some 6) (v := ?_) (a' := ?_) #[true, false, false, false, false, false] rfl rfl (by kernel_rfl) (fun _ _ _ h => h) (Or.inl ⟨by rfl, ?_⟩) hHeld ?_ ?_
      rotate_left
      · intro w' s_
        refine load_G s_ ?x_ ?h1_ ?h2_
        case h1_ => rfl
        case h2_ => rfl
      rotate_left
      · simp only [Act.put, List.setIfInBounds_toArray, List.set_cons_zero, List.set_cons_succ, i64_w, i32_w]
        rfl
      refine pure_ (i := 1) (N := some 7) (v := ?_) (a' := ?_) #[true, true, false, false, false, false] rfl rfl (by kernel_rfl) (fun _ _ _ h => h) (Or.inl ⟨by rfl, ?_⟩) ?_ ?_
      rotate_left
      · intro w'
        go_simp
        with_reducible rfl
      rotate_left
      · simp only [Act.put, List.setIfInBounds_toArray, List.set_cons_zero, List.set_cons_succ, i64_w, i32_w]
        rfl
      refine one_ (i := 2) (N := some 8) #[true, true, true, false, false, false] rfl rfl (by kernel_rfl) (by decide) (fun K hK => ?_)
      refine goes_ Try.func21 (by kernel_rfl) rfl #[.int .i64 a] (by rfl) rfl rfl (by (try simp only [List.map_toArray, List.map_cons, List.map_nil]); first | done | rfl | (simp only [List.length_drop, List.length_take]; rfl)) ?_
      with_reducible refine (numbered_calls a _).mono ?_
      rintro e wc2_ ⟨gv, rfl, hcv, hb⟩
      refine ⟨_, rfl, ?_⟩
      have n0_ := Aside0.mk (below_step (by repeat (first | (with_reducible first | exact HB.out | apply below_alloc | apply pw_below_drewN | apply below_drew1) | exact HB.out)) hb)
      have n1_ := Aside0.mk (blk_below (g := g2) (o := .cells (gm b win ⟨some ad, pn, pc⟩ ⟨ua, un, uc⟩) 37 (0, 0)) (by (with_reducible repeat (first | refine blk_drewN ?_ _ | refine blk_drew ?_ | refine blk_alloc ?_ _)); exact BKg2.out) hb)
      clear HB BKg2
      have HB := n0_
      have BKg2 := n1_
      clear n0_ n1_
      (try clear hb)
      replace hcv := Aside0.mk hcv
      refine hK.out _ _ (by (with_reducible repeat (first | refine blk_drewN ?_ _ | refine blk_drew ?_ | refine blk_alloc ?_ _)); exact BKg2.out) (fun hHeld => ?_)
      clear hK K
      refine norm_ (a' := ?_) ?_ ?_
      rotate_left
      · show Act.put _ (some 8) _ = _
        simp only [Act.put, List.setIfInBounds_toArray, List.set_cons_zero, List.set_cons_succ, i64_w, i32_w]
        rfl
      refine one_ (i := 3) (N := some 9) #[true, true, true, true, false, false] rfl rfl (by kernel_rfl) (by decide) (fun K hK => ?_)
      refine lit_step (cs := #[.func (.func 32) #[] #[.pointer (some ⟨gv, 0, none⟩)]]) (e := 57) (n := 1) (by rfl) (by first | (go_simp; done) | (go_simp; rfl)) ?_
      intro g9 hg wg9_ hbox hb
      replace hcv := Aside0.mk (hcv.out.below hb)
      have n0_ := Aside0.mk (below_step (by repeat (first | (with_reducible first | exact HB.out | apply below_alloc | apply pw_below_drewN | apply below_drew1) | exact HB.out)) hb)
      have n1_ := Aside0.mk (blk_below (g := g2) (o := .cells (gm b win ⟨some ad, pn, pc⟩ ⟨ua, un, uc⟩) 37 (0, 0)) (by (with_reducible repeat (first | refine blk_drewN ?_ _ | refine blk_drew ?_ | refine blk_alloc ?_ _)); exact BKg2.out) hb)
      clear HB BKg2
      have HB := n0_
      have BKg2 := n1_
      clear n0_ n1_
      have BKg9 := Aside0.mk hbox
      clear hb hbox hg
      refine hK.out _ _ (by (with_reducible repeat (first | refine blk_drewN ?_ _ | refine blk_drew ?_ | refine blk_alloc ?_ _)); exact BKg2.out) (fun hHeld => ?_)
      clear hK K
      refine norm_ (a' := ?_) ?_ ?_
      rotate_left
      · show Act.put _ (some 9) _ = _
        simp only [Act.put, List.setIfInBounds_toArray, List.set_cons_zero, List.set_cons_succ, i64_w, i32_w]
        rfl
      refine one_ (i := 4) (N := some 10) #[true, true, true, true, true, false] rfl rfl (by kernel_rfl) (by decide) (fun K hK => ?_)
      refine goes_ Try.func20 (by kernel_rfl) rfl #[.agg (gm b win ⟨some ad, pn, pc⟩ ⟨ua, un, uc⟩), .slice (some ⟨g9, 0, none⟩) 1 1] (by rfl) rfl rfl (by (try simp only [List.map_toArray, List.map_cons, List.map_nil]); first | done | rfl | (simp only [List.length_drop, List.length_take]; rfl)) ?_
      with_reducible refine (find_calls b win ⟨some ad, pn, pc⟩ ⟨ua, un, uc⟩ ps ⟨g9, 0, none⟩ 1 1 _ _ (by repeat (first | exact HR.out.below HB.out | refine Rw.alloc ?_ _ | refine Rw.drewN ?_ _ | refine Rw.drew ?_)) HN.out.1 (cnds1 BKg9.out hcv.out) rfl (by decide)).mono ?_
      rintro e wc4_ ⟨rfl, hb⟩
      refine ⟨_, rfl, ?_⟩
      have n0_ := Aside0.mk (below_step (by repeat (first | (with_reducible first | exact HB.out | apply below_alloc | apply pw_below_drewN | apply below_drew1) | exact HB.out)) hb)
      have n1_ := Aside0.mk (blk_below (g := g2) (o := .cells (gm b win ⟨some ad, pn, pc⟩ ⟨ua, un, uc⟩) 37 (0, 0)) (by (with_reducible repeat (first | refine blk_drewN ?_ _ | refine blk_drew ?_ | refine blk_alloc ?_ _)); exact BKg2.out) hb)
      have n2_ := Aside0.mk (blk_below (g := g9) (o := .cells #[.func (.func 32) #[] #[.pointer (some ⟨gv, 0, none⟩)]] 57 (0, 0)) (by (with_reducible repeat (first | refine blk_drewN ?_ _ | refine blk_drew ?_ | refine blk_alloc ?_ _)); exact BKg9.out) hb)
      clear HB BKg2 BKg9
      have HB := n0_
      have BKg2 := n1_
      have BKg9 := n2_
      clear n0_ n1_ n2_
      (try clear hb)
      rw [fst_find, ← hk.out]
      refine hK.out _ _ (by (with_reducible repeat (first | refine blk_drewN ?_ _ | refine blk_drew ?_ | refine blk_alloc ?_ _)); exact BKg2.out) (fun hHeld => ?_)
      clear hK K
      refine norm_ (a' := ?_) ?_ ?_
      rotate_left
      · show Act.put _ (some 10) _ = _
        simp only [Act.put, List.setIfInBounds_toArray, List.set_cons_zero, List.set_cons_succ, i64_w, i32_w]
        rfl
      refine pure_ (i := 5) (N := some 5) (v := ?_) (a' := ?_) #[true, true, true, true, true, true] rfl rfl (by kernel_rfl) (fun _ _ _ h => h) (Or.inl ⟨by rfl, ?_⟩) ?_ ?_
      rotate_left
      · intro w'
        go_simp
        with_reducible rfl
      rotate_left
      · simp only [Act.put, List.setIfInBounds_toArray, List.set_cons_zero, List.set_cons_succ, i64_w, i32_w]
        rfl
      refine done_ (by kernel_rfl) ?_
      obtain ⟨z1_0, z1_1, z1_2, z1_3, z1_4, z1_5, z1_6, z1_7, z1_8, z1_9, z1_10, z1_11, z1_12, z1_13, z1_14, z1_15⟩ := cells_G BKg2.out
      have f1_ := blk_frozen BKg2.out
      obtain ⟨_, he, h0, h1, h2, h3, h4, h5⟩ := at_P HR.out HB.out k (of_decide_eq_true cb) hkk.out.1
      rw [← hq.out] at h5
      dsimp only at he
      cases he
      go_wp2_with (first | ((with_reducible refine gate_dst (N := 23) rfl ?_); refine gate_guard (by rfl) ?_; dsimp only; refine load_G_event rfl _ rfl rfl (by (with_reducible repeat (first | refine blk_drewN ?_ _ | refine blk_drew ?_ | refine blk_alloc ?_ _)); exact BKg2.out) ?_) | (go_at_call 22; (with_reducible refine (owns_calls b win ⟨some ad, pn, pc⟩ ⟨ua, un, uc⟩ us a _ (by repeat (first | exact HU.out.below HB.out | refine Rw.alloc ?_ _ | refine Rw.drewN ?_ _ | refine Rw.drew ?_)) HN.out.2).mono ?_); rintro e wc_ ⟨rfl, hb⟩; have n0_ := Aside0.mk (below_step (by repeat (first | (with_reducible first | exact HB.out | apply below_alloc | apply pw_below_drewN | apply below_drew1) | exact HB.out)) hb); have n1_ := Aside0.mk (blk_below (g := g2) (o := .cells (gm b win ⟨some ad, pn, pc⟩ ⟨ua, un, uc⟩) 37 (0, 0)) (by (with_reducible repeat (first | refine blk_drewN ?_ _ | refine blk_drew ?_ | refine blk_alloc ?_ _)); exact BKg2.out) hb); clear HB BKg2; have HB := n0_; have BKg2 := n1_; clear n0_ n1_; (try clear hb); rw [← ho.out]; obtain ⟨z2_0, z2_1, z2_2, z2_3, z2_4, z2_5, z2_6, z2_7, z2_8, z2_9, z2_10, z2_11, z2_12, z2_13, z2_14, z2_15⟩ := cells_G BKg2.out; have f2_ := blk_frozen BKg2.out))
      go_ret
      exact ⟨by first | rfl | (simp [*]; done), (by repeat (first | (with_reducible first | exact HB.out | apply below_alloc | apply pw_below_drewN | apply below_drew1) | exact HB.out))⟩
  · have cb := decide_eq_false c
    clear hkb
    go_enter Try.func8, Try.ntmps8
    try go_wp2_with (first | ((with_reducible refine gate_dst (N := 2) rfl ?_); refine box_event ?hg (N := 2) ?hd (cs := (gm b win ⟨pa, pn, pc⟩ ⟨ua, un, uc⟩)) (t := 37) ?hr ?_; (case hd => rfl); (case hg => rfl); (case hr => first | (go_simp; done) | (go_simp; rfl)); intro g2 hg wg2_ hbox hb; have GEg2 := Aside0.mk ((by rw [hg]; exact (below_size (by repeat (first | (with_reducible first | exact HB.out | apply below_alloc | apply pw_below_drewN | apply below_drew1) | exact HB.out))) : w.heap.size ≤ g2)); have n0_ := Aside0.mk (below_step (by repeat (first | (with_reducible first | exact HB.out | apply below_alloc | apply pw_below_drewN | apply below_drew1) | exact HB.out)) hb); clear HB; have HB := n0_; clear n0_; have BKg2 := Aside0.mk hbox; clear hb hbox hg))
    have n0_ := Aside0.mk (blk_drew BKg2.out)
    clear BKg2
    have BKg2 := n0_
    clear n0_
    have n0_ := Aside0.mk (below_drew1 (by repeat (first | (with_reducible first | exact HB.out | apply below_alloc | apply pw_below_drewN | apply below_drew1) | exact HB.out)))
    clear HB
    have HB := n0_
    clear n0_
    refine start_ (n := 6) (S := (fun w' => w'.heap[g2]? = some (.cells (gm b win ⟨pa, pn, pc⟩ ⟨ua, un, uc⟩) 37 (0, 0)))) (ds := []) #[false, false, false, false, false, false] (by kernel_rfl) rfl rfl BKg2.out (fun hHeld => ?_)
    refine take_ (i := 0) (N := some 6) (v := ?_) (a' := ?_) #[true, false, false, false, false, false] rfl rfl (by kernel_rfl) (fun _ _ _ h => h) (Or.inl ⟨by rfl, ?_⟩) hHeld ?_ ?_
    rotate_left
    · intro w' s_
      refine load_G s_ ?x_ ?h1_ ?h2_
      case h1_ => rfl
      case h2_ => rfl
    rotate_left
    · simp only [Act.put, List.setIfInBounds_toArray, List.set_cons_zero, List.set_cons_succ, i64_w, i32_w]
      rfl
    refine pure_ (i := 1) (N := some 7) (v := ?_) (a' := ?_) #[true, true, false, false, false, false] rfl rfl (by kernel_rfl) (fun _ _ _ h => h) (Or.inl ⟨by rfl, ?_⟩) ?_ ?_
    rotate_left
    · intro w'
      go_simp
      with_reducible rfl
    rotate_left
    · simp only [Act.put, List.setIfInBounds_toArray, List.set_cons_zero, List.set_cons_succ, i64_w, i32_w]
      rfl
    refine one_ (i := 2) (N := some 8) #[true, true, true, false, false, false] rfl rfl (by kernel_rfl) (by decide) (fun K hK => ?_)
    refine goes_ Try.func21 (by kernel_rfl) rfl #[.int .i64 a] (by rfl) rfl rfl (by (try simp only [List.map_toArray, List.map_cons, List.map_nil]); first | done | rfl | (simp only [List.length_drop, List.length_take]; rfl)) ?_
    with_reducible refine (numbered_calls a _).mono ?_
    rintro e wc2_ ⟨gv, rfl, hcv, hb⟩
    refine ⟨_, rfl, ?_⟩
    have n0_ := Aside0.mk (below_step (by repeat (first | (with_reducible first | exact HB.out | apply below_alloc | apply pw_below_drewN | apply below_drew1) | exact HB.out)) hb)
    have n1_ := Aside0.mk (blk_below (g := g2) (o := .cells (gm b win ⟨pa, pn, pc⟩ ⟨ua, un, uc⟩) 37 (0, 0)) (by (with_reducible repeat (first | refine blk_drewN ?_ _ | refine blk_drew ?_ | refine blk_alloc ?_ _)); exact BKg2.out) hb)
    clear HB BKg2
    have HB := n0_
    have BKg2 := n1_
    clear n0_ n1_
    (try clear hb)
    replace hcv := Aside0.mk hcv
    refine hK.out _ _ (by (with_reducible repeat (first | refine blk_drewN ?_ _ | refine blk_drew ?_ | refine blk_alloc ?_ _)); exact BKg2.out) (fun hHeld => ?_)
    clear hK K
    refine norm_ (a' := ?_) ?_ ?_
    rotate_left
    · show Act.put _ (some 8) _ = _
      simp only [Act.put, List.setIfInBounds_toArray, List.set_cons_zero, List.set_cons_succ, i64_w, i32_w]
      rfl
    refine one_ (i := 3) (N := some 9) #[true, true, true, true, false, false] rfl rfl (by kernel_rfl) (by decide) (fun K hK => ?_)
    refine lit_step (cs := #[.func (.func 32) #[] #[.pointer (some ⟨gv, 0, none⟩)]]) (e := 57) (n := 1) (by rfl) (by first | (go_simp; done) | (go_simp; rfl)) ?_
    intro g9 hg wg9_ hbox hb
    replace hcv := Aside0.mk (hcv.out.below hb)
    have n0_ := Aside0.mk (below_step (by repeat (first | (with_reducible first | exact HB.out | apply below_alloc | apply pw_below_drewN | apply below_drew1) | exact HB.out)) hb)
    have n1_ := Aside0.mk (blk_below (g := g2) (o := .cells (gm b win ⟨pa, pn, pc⟩ ⟨ua, un, uc⟩) 37 (0, 0)) (by (with_reducible repeat (first | refine blk_drewN ?_ _ | refine blk_drew ?_ | refine blk_alloc ?_ _)); exact BKg2.out) hb)
    clear HB BKg2
    have HB := n0_
    have BKg2 := n1_
    clear n0_ n1_
    have BKg9 := Aside0.mk hbox
    clear hb hbox hg
    refine hK.out _ _ (by (with_reducible repeat (first | refine blk_drewN ?_ _ | refine blk_drew ?_ | refine blk_alloc ?_ _)); exact BKg2.out) (fun hHeld => ?_)
    clear hK K
    refine norm_ (a' := ?_) ?_ ?_
    rotate_left
    · show Act.put _ (some 9) _ = _
      simp only [Act.put, List.setIfInBounds_toArray, List.set_cons_zero, List.set_cons_succ, i64_w, i32_w]
      rfl
    refine one_ (i := 4) (N := some 10) #[true, true, true, true, true, false] rfl rfl (by kernel_rfl) (by decide) (fun K hK => ?_)
    refine goes_ Try.func20 (by kernel_rfl) rfl #[.agg (gm b win ⟨pa, pn, pc⟩ ⟨ua, un, uc⟩), .slice (some ⟨g9, 0, none⟩) 1 1] (by rfl) rfl rfl (by (try simp only [List.map_toArray, List.map_cons, List.map_nil]); first | done | rfl | (simp only [List.length_drop, List.length_take]; rfl)) ?_
    with_reducible refine (find_calls b win ⟨pa, pn, pc⟩ ⟨ua, un, uc⟩ ps ⟨g9, 0, none⟩ 1 1 _ _ (by repeat (first | exact HR.out.below HB.out | refine Rw.alloc ?_ _ | refine Rw.drewN ?_ _ | refine Rw.drew ?_)) HN.out.1 (cnds1 BKg9.out hcv.out) rfl (by decide)).mono ?_
    rintro e wc4_ ⟨rfl, hb⟩
    refine ⟨_, rfl, ?_⟩
    have n0_ := Aside0.mk (below_step (by repeat (first | (with_reducible first | exact HB.out | apply below_alloc | apply pw_below_drewN | apply below_drew1) | exact HB.out)) hb)
    have n1_ := Aside0.mk (blk_below (g := g2) (o := .cells (gm b win ⟨pa, pn, pc⟩ ⟨ua, un, uc⟩) 37 (0, 0)) (by (with_reducible repeat (first | refine blk_drewN ?_ _ | refine blk_drew ?_ | refine blk_alloc ?_ _)); exact BKg2.out) hb)
    have n2_ := Aside0.mk (blk_below (g := g9) (o := .cells #[.func (.func 32) #[] #[.pointer (some ⟨gv, 0, none⟩)]] 57 (0, 0)) (by (with_reducible repeat (first | refine blk_drewN ?_ _ | refine blk_drew ?_ | refine blk_alloc ?_ _)); exact BKg9.out) hb)
    clear HB BKg2 BKg9
    have HB := n0_
    have BKg2 := n1_
    have BKg9 := n2_
    clear n0_ n1_ n2_
    (try clear hb)
    rw [fst_find, ← hk.out]
    refine hK.out _ _ (by (with_reducible repeat (first | refine blk_drewN ?_ _ | refine blk_drew ?_ | refine blk_alloc ?_ _)); exact BKg2.out) (fun hHeld => ?_)
    clear hK K
    refine norm_ (a' := ?_) ?_ ?_
    rotate_left
    · show Act.put _ (some 10) _ = _
      simp only [Act.put, List.setIfInBounds_toArray, List.set_cons_zero, List.set_cons_succ, i64_w, i32_w]
      rfl
    refine pure_ (i := 5) (N := some 5) (v := ?_) (a' := ?_) #[true, true, true, true, true, true] rfl rfl (by kernel_rfl) (fun _ _ _ h => h) (Or.inl ⟨by rfl, ?_⟩) ?_ ?_
    rotate_left
    · intro w'
      go_simp
      with_reducible rfl
    rotate_left
    · simp only [Act.put, List.setIfInBounds_toArray, List.set_cons_zero, List.set_cons_succ, i64_w, i32_w]
      rfl
    refine done_ (by kernel_rfl) ?_
    obtain ⟨z1_0, z1_1, z1_2, z1_3, z1_4, z1_5, z1_6, z1_7, z1_8, z1_9, z1_10, z1_11, z1_12, z1_13, z1_14, z1_15⟩ := cells_G BKg2.out
    have f1_ := blk_frozen BKg2.out
    go_wp2
    go_ret
    exact ⟨by first | rfl | (simp [*]; done), (by repeat (first | (with_reducible first | exact HB.out | apply below_alloc | apply pw_below_drewN | apply below_drew1) | exact HB.out))⟩

end Go.Proofs.Ytolcofjdjbnimaa.V
