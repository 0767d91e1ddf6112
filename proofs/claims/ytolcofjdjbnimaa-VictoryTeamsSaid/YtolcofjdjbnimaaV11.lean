/- Chapter 33: the walk of slices.Clone over players. -/
import Derived.Test.YtolcofjdjbnimaaV10
import Derived.Test.YtolcofjdjbnimaaVO
namespace Go.Proofs.Ytolcofjdjbnimaa.V
open Go.RowKit Go.Proofs.YtolcofjdjbnimaaW.PrintWords Go.Proofs.YtolcofjdjbnimaaW.PrintLast Go.Proofs.YtolcofjdjbnimaaW.PrintMore
attribute [local go_sem] max2_int min2_int max_two min_two max_three min_three max_four min_four   -- for this text's walks alone
set_option linter.unusedVariables false
set_option linter.unusedSimpArgs false

set_option maxHeartbeats 8000000 in
set_option maxRecDepth 100000 in
theorem clone_calls (P : RS) (ps : List S52) (w : World) (hR : Rw k52 w P ps) (hn : P.n ≤ 100) : Calls Try.prog 28 #[.slice P.a P.n P.c] w fun e w' => ∃ R : RS, e = .returned (.slice R.a R.n R.c) ∧ Ow k52 52 w' w.heap.size R ps ∧ Below w.heap.size w w' := by
  obtain ⟨pa, pn, pc⟩ := P
  have hnil := fun (wx : World) => Lib.run_eql_slice_nil (P := Try.prog) wx 31 52 pa pn pc 0 0 Try.underlying31
  have HR := Aside0.mk hR
  have HN := Aside0.mk hn
  clear hR hn
  have HB := Aside0.mk (Below.refl w.heap.size w)
  cases pa with
  | none =>
    have hl0 : ps = [] := by
      rcases Nat.eq_zero_or_pos ps.length with h0 | h0
      · exact List.eq_nil_of_length_eq_zero h0
      · have l_ : pn = ps.length := HR.out.len
        obtain ⟨ad, e, _⟩ := HR.out.c.2.2 (by show 0 < pn; omega)
        cases e
    subst hl0
    go_enter Try.func28, Try.ntmps28
    go_wp2
    go_ret
    exact ⟨RS0, rfl, Kd.R_nil _ _ _ _ _, (by repeat (first | (with_reducible first | exact HB.out | apply below_alloc | apply pw_below_drewN | apply below_drew1) | exact HB.out))⟩
  | some ad =>
    go_enter Try.func28, Try.ntmps28
    go_wp2_with (first | ((with_reducible refine gate_dst (N := 5) rfl ?_); refine Kd.R_lit k52 _ 52 ?hg (N := 5) ?hd (xs := ([] : List S52)) (inner := []) (ok := fun _ => True) (okp := fun _ => True) ?hr ?hp (fun _ hk => hk) trivial (Below.refl _ _) (Nat.le_refl _) (by simp) ?_; (case hg => rfl); (case hd => rfl); (case hr => first | (go_simp; done) | (go_simp; rfl)); (case hp => exact (Reps.none _ _)); intro v5 w5_ ho5 hb hg_ hnew_; obtain ⟨A5, c5, rfl⟩ := Kd.R_slice ho5; have HO5 := Aside0.mk (show Ow k52 52 w5_ w.heap.size ⟨A5, _, c5⟩ [] from Kd.R_lower ho5 (below_size (by repeat (first | (with_reducible first | exact HB.out | apply below_alloc | apply pw_below_drewN | apply below_drew1) | exact HB.out)))); have n0_ := Aside0.mk (below_step (by repeat (first | (with_reducible first | exact HB.out | apply below_alloc | apply pw_below_drewN | apply below_drew1) | exact HB.out)) hb); clear HB; have HB := n0_; clear n0_ hb hg_ hnew_ ho5) | ((with_reducible refine gate_builtin (b := .append) (xs := #[.tmp 5, .tmp 6]) rfl ?_); at_builtin; refine apps52_event (w := w) (R := ⟨A5, _, c5⟩) (S := ⟨some ad, pn, pc⟩) rfl (.tmp 5) (.tmp 6) rfl rfl rfl HO5.out (by repeat (first | exact HR.out.below HB.out | refine Rw.alloc ?_ _ | refine Rw.drewN ?_ _ | refine Rw.drew ?_)) (by repeat (first | (with_reducible first | exact HB.out | apply below_alloc | apply pw_below_drewN | apply below_drew1) | exact HB.out)) (by simp) (Nat.le_trans HN.out (by decide)) ?_; intro R' w7_ ho7 hb hg_; have HO7 := Aside0.mk ho7; clear HB HO5; have HB := Aside0.mk hb; clear hb hg_ ho7))
    go_ret
    exact ⟨R', rfl, by (with_reducible repeat (first | apply Kd.R_alloc | apply Kd.R_drewN | apply Kd.R_drew)); exact HO7.out, (by repeat (first | (with_reducible first | exact HB.out | apply below_alloc | apply pw_below_drewN | apply below_drew1) | exact HB.out))⟩

end Go.Proofs.Ytolcofjdjbnimaa.V
