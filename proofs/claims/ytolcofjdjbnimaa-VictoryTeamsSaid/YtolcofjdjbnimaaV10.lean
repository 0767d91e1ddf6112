/- Chapter 33: 'same' answers true for games with equal lists of players and of entities. -/
import Derived.Test.YtolcofjdjbnimaaV9
namespace Go.Proofs.Ytolcofjdjbnimaa.V
open Go.RowKit Go.Proofs.YtolcofjdjbnimaaW.PrintWords Go.Proofs.YtolcofjdjbnimaaW.PrintLast Go.Proofs.YtolcofjdjbnimaaW.PrintMore
attribute [local go_sem] max2_int min2_int max_two min_two max_three min_three max_four min_four   -- for this text's walks alone
set_option linter.unusedVariables false
set_option linter.unusedSimpArgs false

section
variable {ops : Array Oper} {o : Oper} {a : Act} {Q : Exit → Act → World → Prop} {Kc : Act → World → Prop}
theorem store_P_step {W : World} {g : Nat} {p q : S52} (hw : Region.wanted o (yielded ops a.tmps) = true) (x v : Operand) (ho : o.op = .store 52 x v) (hN : o.dst = none) (hx : a.eval x = .pointer (some ⟨g, 0, none⟩)) (hv : a.eval v = .agg (pl q)) (h : W.heap[g]? = some (.cells (pl p) 52 (0, 0)))
    (hk : ∀ W1, W1.heap[g]? = some (.cells (pl q) 52 (0, 0)) → Put W W1 g → Kc a W1) : if Region.wanted o (yielded ops a.tmps) = true then Oper.wp Try.prog o a W Kc Q else Kc (a.put none undef) W := by
  obtain ⟨W1, h1, h2, h3⟩ := store_P h x v ho hx hv
  rw [if_pos hw]
  unfold Oper.wp
  rw [h1]
  show Kc (a.put o.dst undef) W1
  rw [hN]
  exact hk W1 h2 h3
end

set_option maxHeartbeats 8000000 in
set_option maxRecDepth 100000 in
theorem same_calls (b : B) (win : Int) (P P' U U' : RS) (ps : List S52) (us : List S69) (w : World) (hR : Rw k52 w P ps) (hR' : Rw k52 w P' ps) (hU : Rw k69 w U us) (hU' : Rw k69 w U' us) (hn : P.n ≤ 100) (hm : us.length ≤ 100) (hD : ∀ x ∈ us, Dp w x) : Calls Try.prog 15 #[.agg (gm b win P U), .agg (gm b win P' U')] w fun e w' => e = .returned (.bool true) ∧ Below w.heap.size w w' := by
  have hu37 := Try.underlying37
  have hu52 := Try.underlying52
  obtain ⟨pa, pn, pc⟩ := P
  obtain ⟨qa, qn, qc⟩ := P'
  obtain ⟨ua, un, uc⟩ := U
  obtain ⟨va, vn, vc⟩ := U'
  have hq : qn = pn := hR'.len.trans hR.len.symm
  subst hq
  have HR := Aside0.mk hR
  have HR' := Aside0.mk hR'
  have HU := Aside0.mk hU
  have HU' := Aside0.mk hU'
  have HD := Aside0.mk hD
  have HN : Aside0 (qn ≤ 100 ∧ us.length ≤ 100) := ⟨hn, hm⟩
  clear hR hR' hU hU' hn hm hD
  have HB := Aside0.mk (Below.refl w.heap.size w)
  go_enter Try.func15, Try.ntmps15
  go_wp2_with (first | ((with_reducible refine gate_dst (N := 2) rfl ?_); refine box_event ?hg (N := 2) ?hd (cs := (gm b win ⟨pa, qn, pc⟩ ⟨ua, un, uc⟩)) (t := 37) ?hr ?_; (case hd => rfl); (case hg => rfl); (case hr => first | (go_simp; done) | (go_simp; rfl)); intro g2 hg wg2_ hbox hb; have GEg2 := Aside0.mk ((by rw [hg]; exact (below_size (by repeat (first | (with_reducible first | exact HB.out | apply below_alloc | apply pw_below_drewN | apply below_drew1) | exact HB.out))) : w.heap.size ≤ g2)); have n0_ := Aside0.mk (below_step (by repeat (first | (with_reducible first | exact HB.out | apply below_alloc | apply pw_below_drewN | apply below_drew1) | exact HB.out)) hb); clear HB; have HB := n0_; clear n0_; have BKg2 := Aside0.mk hbox; clear hb hbox hg) | ((with_reducible refine gate_dst (N := 3) rfl ?_); refine box_event ?hg (N := 3) ?hd (cs := (gm b win ⟨qa, qn, qc⟩ ⟨va, vn, vc⟩)) (t := 37) ?hr ?_; (case hd => rfl); (case hg => rfl); (case hr => first | (go_simp; done) | (go_simp; rfl)); intro g3 hg wg3_ hbox hb; have GEg3 := Aside0.mk ((by rw [hg]; exact (below_size (by repeat (first | (with_reducible first | exact HB.out | apply below_alloc | apply pw_below_drewN | apply below_drew1) | exact HB.out))) : w.heap.size ≤ g3)); have NEg2_g3 := Aside0.mk (by rw [hg]; exact Nat.ne_of_lt (blk_lt (by (with_reducible repeat (first | refine blk_drewN ?_ _ | refine blk_drew ?_ | refine blk_alloc ?_ _)); exact BKg2.out)) : g2 ≠ g3); have n0_ := Aside0.mk (below_step (by repeat (first | (with_reducible first | exact HB.out | apply below_alloc | apply pw_below_drewN | apply below_drew1) | exact HB.out)) hb); have n1_ := Aside0.mk (blk_below (g := g2) (o := .cells (gm b win ⟨pa, qn, pc⟩ ⟨ua, un, uc⟩) 37 (0, 0)) (by (with_reducible repeat (first | refine blk_drewN ?_ _ | refine blk_drew ?_ | refine blk_alloc ?_ _)); exact BKg2.out) hb); clear HB BKg2; have HB := n0_; have BKg2 := n1_; clear n0_ n1_; have BKg3 := Aside0.mk hbox; clear hb hbox hg; obtain ⟨z1_0, z1_1, z1_2, z1_3, z1_4, z1_5, z1_6, z1_7, z1_8, z1_9, z1_10, z1_11, z1_12, z1_13, z1_14, z1_15⟩ := cells_G BKg2.out; have f1_ := blk_frozen BKg2.out; obtain ⟨z2_0, z2_1, z2_2, z2_3, z2_4, z2_5, z2_6, z2_7, z2_8, z2_9, z2_10, z2_11, z2_12, z2_13, z2_14, z2_15⟩ := cells_G BKg3.out; have f2_ := blk_frozen BKg3.out))
  go_loopg [5] 200 (fun kq v5 w' => ∃ (x : Int), v5 = .int .i64 x ∧ Aside0 (0 ≤ x ∧ x ≤ qn ∧ (kq : Int) + x ≥ 101) ∧ Aside0 (w'.heap[g2]? = some (.cells (gm b win ⟨pa, qn, pc⟩ ⟨ua, un, uc⟩) 37 (0, 0))) ∧ Aside0 (w'.heap[g3]? = some (.cells (gm b win ⟨qa, qn, qc⟩ ⟨va, vn, vc⟩) 37 (0, 0))) ∧ Aside0 (Below w.heap.size w w'))
  case atStart => exact ⟨0, rfl, ⟨by have := HN.out.1; omega⟩, ⟨by (with_reducible repeat (first | refine blk_drewN ?_ _ | refine blk_drew ?_ | refine blk_alloc ?_ _)); exact BKg2.out⟩, ⟨by (with_reducible repeat (first | refine blk_drewN ?_ _ | refine blk_drew ?_ | refine blk_alloc ?_ _)); exact BKg3.out⟩, ⟨(by repeat (first | (with_reducible first | exact HB.out | apply below_alloc | apply pw_below_drewN | apply below_drew1) | exact HB.out))⟩⟩
  case round =>
    clear HB BKg2 BKg3
    obtain ⟨x, rfl, HI, BKg2, BKg3, HB⟩ := hrel
    have hi := HI.out
    have hnn : qn ≤ 100 := HN.out.1
    cases gk with
    | zero => exfalso; omega
    | succ k1 =>
    by_cases c4 : x < (qn : Int)
    · have c4b := decide_eq_true c4
      have p0 : 0 ≤ x := hi.1
      have p0b := decide_eq_true p0
      have hw : wrap64 (x + 1) = x + 1 := wrap64_of (by omega) (by omega)
      obtain ⟨ad, he, -⟩ := at_P HR.out HB.out x p0 c4
      obtain ⟨ad', he', -⟩ := at_P HR'.out HB.out x p0 c4
      dsimp only at he he'
      subst he
      subst he'
      obtain ⟨z1_0, z1_1, z1_2, z1_3, z1_4, z1_5, z1_6, z1_7, z1_8, z1_9, z1_10, z1_11, z1_12, z1_13, z1_14, z1_15⟩ := cells_G BKg2.out
      have f1_ := blk_frozen BKg2.out
      obtain ⟨z2_0, z2_1, z2_2, z2_3, z2_4, z2_5, z2_6, z2_7, z2_8, z2_9, z2_10, z2_11, z2_12, z2_13, z2_14, z2_15⟩ := cells_G BKg3.out
      have f2_ := blk_frozen BKg3.out
      replace p0 := eq_true p0
      have c4k := Aside0.mk c4
      replace c4 := eq_true c4
      clear hi hnn
      try go_wp2
      have n0_ := Aside0.mk (blk_drew BKg2.out)
      clear BKg2
      have BKg2 := n0_
      clear n0_
      have n0_ := Aside0.mk (blk_drew BKg3.out)
      clear BKg3
      have BKg3 := n0_
      clear n0_
      have n0_ := Aside0.mk (below_drew1 (by repeat (first | (with_reducible first | exact HB.out | apply below_alloc | apply pw_below_drewN | apply below_drew1) | exact HB.out)))
      clear HB
      have HB := n0_
      clear n0_
      refine start_ (n := 14) (S := (fun w' => Below w.heap.size w w' ∧ w'.heap[g2]? = some (.cells (gm b win ⟨some ad, qn, pc⟩ ⟨ua, un, uc⟩) 37 (0, 0)) ∧ w'.heap[g3]? = some (.cells (gm b win ⟨some ad', qn, qc⟩ ⟨va, vn, vc⟩) 37 (0, 0)))) (ds := []) #[false, false, false, false, false, false, false, false, false, false, false, false, false, false] (by kernel_rfl) rfl rfl ⟨(by repeat (first | (with_reducible first | exact HB.out | apply below_alloc | apply pw_below_drewN | apply below_drew1) | exact HB.out)), by (with_reducible repeat (first | refine blk_drewN ?_ _ | refine blk_drew ?_ | refine blk_alloc ?_ _)); exact BKg2.out, by (with_reducible repeat (first | refine blk_drewN ?_ _ | refine blk_drew ?_ | refine blk_alloc ?_ _)); exact BKg3.out⟩ (fun hHeld => ?_)
      refine pure_ (i := 0) (N := some 36) (v := ?_) (a' := ?_) #[true, false, false, false, false, false, false, false, false, false, false, false, false, false] rfl rfl (by kernel_rfl) (fun _ _ _ h => h) (Or.inl ⟨by rfl, ?_⟩) ?_ ?_
      rotate_left
      · intro w'
        go_simp
        with_reducible rfl
      rotate_left
      · simp only [Act.put, List.setIfInBounds_toArray, List.set_cons_zero, List.set_cons_succ, i64_w, i32_w]
        rfl
      refine pure_ (i := 2) (N := some 38) (v := ?_) (a' := ?_) #[true, false, true, false, false, false, false, false, false, false, false, false, false, false] rfl rfl (by kernel_rfl) (fun _ _ _ h => h) (Or.inl ⟨by rfl, ?_⟩) ?_ ?_
      rotate_left
      · intro w'
        go_simp
        with_reducible rfl
      rotate_left
      · simp only [Act.put, List.setIfInBounds_toArray, List.set_cons_zero, List.set_cons_succ, i64_w, i32_w]
        rfl
      refine pure_ (i := 5) (N := some 41) (v := ?_) (a' := ?_) #[true, false, true, false, false, true, false, false, false, false, false, false, false, false] rfl rfl (by kernel_rfl) (fun _ _ _ h => h) (Or.inl ⟨by rfl, ?_⟩) ?_ ?_
      rotate_left
      · intro w'
        go_simp
        with_reducible rfl
      rotate_left
      · simp only [Act.put, List.setIfInBounds_toArray, List.set_cons_zero, List.set_cons_succ, i64_w, i32_w]
        rfl
      refine pure_ (i := 7) (N := some 43) (v := ?_) (a' := ?_) #[true, false, true, false, false, true, false, true, false, false, false, false, false, false] rfl rfl (by kernel_rfl) (fun _ _ _ h => h) (Or.inl ⟨by rfl, ?_⟩) ?_ ?_
      rotate_left
      · intro w'
        go_simp
        with_reducible rfl
      rotate_left
      · simp only [Act.put, List.setIfInBounds_toArray, List.set_cons_zero, List.set_cons_succ, i64_w, i32_w]
        rfl
      refine take_ (i := 1) (N := some 37) (v := ?_) (a' := ?_) #[true, true, true, false, false, true, false, true, false, false, false, false, false, false] rfl rfl (by kernel_rfl) (fun _ _ _ h => h) (Or.inl ⟨by rfl, ?_⟩) hHeld ?_ ?_
      rotate_left
      · rintro w' s_
        obtain ⟨z_0, z_1, z_2, z_3, z_4, z_5, z_6, z_7, z_8, z_9, z_10, z_11, z_12, z_13, z_14, z_15⟩ := cells_G s_.2.1
        go_simp
        with_reducible rfl
      rotate_left
      · simp only [Act.put, List.setIfInBounds_toArray, List.set_cons_zero, List.set_cons_succ, i64_w, i32_w]
        rfl
      refine pure_ (i := 3) (N := some 39) (v := ?_) (a' := ?_) #[true, true, true, true, false, true, false, true, false, false, false, false, false, false] rfl rfl (by kernel_rfl) (fun _ _ _ h => h) (Or.inl ⟨by rfl, ?_⟩) ?_ ?_
      rotate_left
      · intro w'
        go_simp
        with_reducible rfl
      rotate_left
      · simp only [Act.put, List.setIfInBounds_toArray, List.set_cons_zero, List.set_cons_succ, i64_w, i32_w]
        rfl
      refine take_ (i := 4) (N := some 40) (v := ?_) (a' := ?_) #[true, true, true, true, true, true, false, true, false, false, false, false, false, false] rfl rfl (by kernel_rfl) (fun _ _ _ h => h) (Or.inl ⟨by rfl, ?_⟩) hHeld ?_ ?_
      rotate_left
      · intro w' s_
        refine at_load_P HR.out s_.1 x HI.out.1 c4k.out ad rfl (.tmp 39) ?h1_ ?h2_
        case h1_ => first | rfl | exact rfl | kernel_rfl
        case h2_ => first | rfl | exact rfl | kernel_rfl
      rotate_left
      · simp only [Act.put, List.setIfInBounds_toArray, List.set_cons_zero, List.set_cons_succ, i64_w, i32_w]
        rfl
      refine take_ (i := 6) (N := some 42) (v := ?_) (a' := ?_) #[true, true, true, true, true, true, true, true, false, false, false, false, false, false] rfl rfl (by kernel_rfl) (fun _ _ _ h => h) (Or.inl ⟨by rfl, ?_⟩) hHeld ?_ ?_
      rotate_left
      · rintro w' s_
        obtain ⟨z_0, z_1, z_2, z_3, z_4, z_5, z_6, z_7, z_8, z_9, z_10, z_11, z_12, z_13, z_14, z_15⟩ := cells_G s_.2.2
        go_simp
        with_reducible rfl
      rotate_left
      · simp only [Act.put, List.setIfInBounds_toArray, List.set_cons_zero, List.set_cons_succ, i64_w, i32_w]
        rfl
      refine pure_ (i := 8) (N := some 44) (v := ?_) (a' := ?_) #[true, true, true, true, true, true, true, true, true, false, false, false, false, false] rfl rfl (by kernel_rfl) (fun _ _ _ h => h) (Or.inl ⟨by rfl, ?_⟩) ?_ ?_
      rotate_left
      · intro w'
        go_simp
        with_reducible rfl
      rotate_left
      · simp only [Act.put, List.setIfInBounds_toArray, List.set_cons_zero, List.set_cons_succ, i64_w, i32_w]
        rfl
      refine take_ (i := 9) (N := some 45) (v := ?_) (a' := ?_) #[true, true, true, true, true, true, true, true, true, true, false, false, false, false] rfl rfl (by kernel_rfl) (fun _ _ _ h => h) (Or.inl ⟨by rfl, ?_⟩) hHeld ?_ ?_
      rotate_left
      · intro w' s_
        refine at_load_P HR'.out s_.1 x HI.out.1 c4k.out ad' rfl (.tmp 44) ?h1_ ?h2_
        case h1_ => first | rfl | exact rfl | kernel_rfl
        case h2_ => first | rfl | exact rfl | kernel_rfl
      rotate_left
      · simp only [Act.put, List.setIfInBounds_toArray, List.set_cons_zero, List.set_cons_succ, i64_w, i32_w]
        rfl
      refine two_ (i := 10) (j := 11) (Ni := some 6) (Nj := some 7) #[true, true, true, true, true, true, true, true, true, true, true, false, false, false] #[true, true, true, true, true, true, true, true, true, true, false, true, false, false] rfl rfl rfl rfl (by kernel_rfl) (by decide) (by decide) (fun K hK => ?_) (fun K hK => ?_)
      · refine box_step ?hg (N := 6) ?hd (cs := (pl z52)) (t := 52) ?hr ?_
        (case hd => rfl)
        (case hg => rfl)
        (case hr => first | (go_simp; done) | (go_simp; rfl))
        intro g6 hg wg6_ hbox hb
        have GEg6 := Aside0.mk ((by rw [hg]; exact (below_size (by repeat (first | (with_reducible first | exact HB.out | apply below_alloc | apply pw_below_drewN | apply below_drew1) | exact HB.out))) : w.heap.size ≤ g6))
        have NEg2_g6 := Aside0.mk (by rw [hg]; exact Nat.ne_of_lt (blk_lt (by (with_reducible repeat (first | refine blk_drewN ?_ _ | refine blk_drew ?_ | refine blk_alloc ?_ _)); exact BKg2.out)) : g2 ≠ g6)
        have NEg3_g6 := Aside0.mk (by rw [hg]; exact Nat.ne_of_lt (blk_lt (by (with_reducible repeat (first | refine blk_drewN ?_ _ | refine blk_drew ?_ | refine blk_alloc ?_ _)); exact BKg3.out)) : g3 ≠ g6)
        have n0_ := Aside0.mk (below_step (by repeat (first | (with_reducible first | exact HB.out | apply below_alloc | apply pw_below_drewN | apply below_drew1) | exact HB.out)) hb)
        have n1_ := Aside0.mk (blk_below (g := g2) (o := .cells (gm b win ⟨some ad, qn, pc⟩ ⟨ua, un, uc⟩) 37 (0, 0)) (by (with_reducible repeat (first | refine blk_drewN ?_ _ | refine blk_drew ?_ | refine blk_alloc ?_ _)); exact BKg2.out) hb)
        have n2_ := Aside0.mk (blk_below (g := g3) (o := .cells (gm b win ⟨some ad', qn, qc⟩ ⟨va, vn, vc⟩) 37 (0, 0)) (by (with_reducible repeat (first | refine blk_drewN ?_ _ | refine blk_drew ?_ | refine blk_alloc ?_ _)); exact BKg3.out) hb)
        clear HB BKg2 BKg3
        have HB := n0_
        have BKg2 := n1_
        have BKg3 := n2_
        clear n0_ n1_ n2_
        have BKg6 := Aside0.mk hbox
        clear hb hbox hg
        refine hK.out _ _ ⟨(by repeat (first | (with_reducible first | exact HB.out | apply below_alloc | apply pw_below_drewN | apply below_drew1) | exact HB.out)), by (with_reducible repeat (first | refine blk_drewN ?_ _ | refine blk_drew ?_ | refine blk_alloc ?_ _)); exact BKg2.out, by (with_reducible repeat (first | refine blk_drewN ?_ _ | refine blk_drew ?_ | refine blk_alloc ?_ _)); exact BKg3.out⟩ (fun hHeld => ?_)
        clear hK K
        refine norm_ (a' := ?_) ?_ ?_
        rotate_left
        · show Act.put _ (some 6) _ = _
          simp only [Act.put, List.setIfInBounds_toArray, List.set_cons_zero, List.set_cons_succ, i64_w, i32_w]
          rfl
        refine one_ (i := 11) (N := some 7) #[true, true, true, true, true, true, true, true, true, true, true, true, false, false] rfl rfl (by kernel_rfl) (by decide) (fun K hK => ?_)
        refine box_step ?hg (N := 7) ?hd (cs := (pl z52)) (t := 52) ?hr ?_
        (case hd => rfl)
        (case hg => rfl)
        (case hr => first | (go_simp; done) | (go_simp; rfl))
        intro g7 hg wg7_ hbox hb
        have GEg7 := Aside0.mk ((by rw [hg]; exact (below_size (by repeat (first | (with_reducible first | exact HB.out | apply below_alloc | apply pw_below_drewN | apply below_drew1) | exact HB.out))) : w.heap.size ≤ g7))
        have NEg2_g7 := Aside0.mk (by rw [hg]; exact Nat.ne_of_lt (blk_lt (by (with_reducible repeat (first | refine blk_drewN ?_ _ | refine blk_drew ?_ | refine blk_alloc ?_ _)); exact BKg2.out)) : g2 ≠ g7)
        have NEg3_g7 := Aside0.mk (by rw [hg]; exact Nat.ne_of_lt (blk_lt (by (with_reducible repeat (first | refine blk_drewN ?_ _ | refine blk_drew ?_ | refine blk_alloc ?_ _)); exact BKg3.out)) : g3 ≠ g7)
        have NEg6_g7 := Aside0.mk (by rw [hg]; exact Nat.ne_of_lt (blk_lt (by (with_reducible repeat (first | refine blk_drewN ?_ _ | refine blk_drew ?_ | refine blk_alloc ?_ _)); exact BKg6.out)) : g6 ≠ g7)
        have n0_ := Aside0.mk (below_step (by repeat (first | (with_reducible first | exact HB.out | apply below_alloc | apply pw_below_drewN | apply below_drew1) | exact HB.out)) hb)
        have n1_ := Aside0.mk (blk_below (g := g2) (o := .cells (gm b win ⟨some ad, qn, pc⟩ ⟨ua, un, uc⟩) 37 (0, 0)) (by (with_reducible repeat (first | refine blk_drewN ?_ _ | refine blk_drew ?_ | refine blk_alloc ?_ _)); exact BKg2.out) hb)
        have n2_ := Aside0.mk (blk_below (g := g3) (o := .cells (gm b win ⟨some ad', qn, qc⟩ ⟨va, vn, vc⟩) 37 (0, 0)) (by (with_reducible repeat (first | refine blk_drewN ?_ _ | refine blk_drew ?_ | refine blk_alloc ?_ _)); exact BKg3.out) hb)
        have n3_ := Aside0.mk (blk_below (g := g6) (o := .cells (pl z52) 52 (0, 0)) (by (with_reducible repeat (first | refine blk_drewN ?_ _ | refine blk_drew ?_ | refine blk_alloc ?_ _)); exact BKg6.out) hb)
        clear HB BKg2 BKg3 BKg6
        have HB := n0_
        have BKg2 := n1_
        have BKg3 := n2_
        have BKg6 := n3_
        clear n0_ n1_ n2_ n3_
        have BKg7 := Aside0.mk hbox
        clear hb hbox hg
        refine hK.out _ _ ⟨(by repeat (first | (with_reducible first | exact HB.out | apply below_alloc | apply pw_below_drewN | apply below_drew1) | exact HB.out)), by (with_reducible repeat (first | refine blk_drewN ?_ _ | refine blk_drew ?_ | refine blk_alloc ?_ _)); exact BKg2.out, by (with_reducible repeat (first | refine blk_drewN ?_ _ | refine blk_drew ?_ | refine blk_alloc ?_ _)); exact BKg3.out⟩ (fun hHeld => ?_)
        clear hK K
        refine norm_ (a' := ?_) ?_ ?_
        rotate_left
        · show Act.put _ (some 7) _ = _
          simp only [Act.put, List.setIfInBounds_toArray, List.set_cons_zero, List.set_cons_succ, i64_w, i32_w]
          rfl
        refine one_ (i := 12) (N := none) #[true, true, true, true, true, true, true, true, true, true, true, true, true, false] rfl rfl (by kernel_rfl) (by decide) (fun K hK => ?_)
        refine store_P_step (g := g6) (p := z52) (q := rd_T52 ps x) (by rfl) (.tmp 6) (.tmp 40) ?h1_ rfl ?h2_ ?h3_ BKg6.out ?_
        case h1_ => first | rfl | exact rfl | kernel_rfl
        case h2_ => first | rfl | exact rfl | kernel_rfl
        case h3_ => first | rfl | exact rfl | kernel_rfl
        intro ws_ hblk hput
        have n0_ := Aside0.mk (hput.below (by repeat (first | (with_reducible first | exact HB.out | apply below_alloc | apply pw_below_drewN | apply below_drew1) | exact HB.out)) GEg6.out)
        have n1_ := Aside0.mk (hput.blk (by (with_reducible repeat (first | refine blk_drewN ?_ _ | refine blk_drew ?_ | refine blk_alloc ?_ _)); exact BKg2.out) NEg2_g6.out)
        have n2_ := Aside0.mk (hput.blk (by (with_reducible repeat (first | refine blk_drewN ?_ _ | refine blk_drew ?_ | refine blk_alloc ?_ _)); exact BKg3.out) NEg3_g6.out)
        have n3_ := Aside0.mk hblk
        have n4_ := Aside0.mk (hput.blk (by (with_reducible repeat (first | refine blk_drewN ?_ _ | refine blk_drew ?_ | refine blk_alloc ?_ _)); exact BKg7.out) (Ne.symm NEg6_g7.out))
        clear HB BKg2 BKg3 BKg6 BKg7
        have HB := n0_
        have BKg2 := n1_
        have BKg3 := n2_
        have BKg6 := n3_
        have BKg7 := n4_
        clear n0_ n1_ n2_ n3_ n4_
        clear hblk hput
        refine hK.out _ _ ⟨(by repeat (first | (with_reducible first | exact HB.out | apply below_alloc | apply pw_below_drewN | apply below_drew1) | exact HB.out)), by (with_reducible repeat (first | refine blk_drewN ?_ _ | refine blk_drew ?_ | refine blk_alloc ?_ _)); exact BKg2.out, by (with_reducible repeat (first | refine blk_drewN ?_ _ | refine blk_drew ?_ | refine blk_alloc ?_ _)); exact BKg3.out⟩ (fun hHeld => ?_)
        clear hK K
        refine one_ (i := 13) (N := none) #[true, true, true, true, true, true, true, true, true, true, true, true, true, true] rfl rfl (by kernel_rfl) (by decide) (fun K hK => ?_)
        refine store_P_step (g := g7) (p := z52) (q := rd_T52 ps x) (by rfl) (.tmp 7) (.tmp 45) ?h1_ rfl ?h2_ ?h3_ BKg7.out ?_
        case h1_ => first | rfl | exact rfl | kernel_rfl
        case h2_ => first | rfl | exact rfl | kernel_rfl
        case h3_ => first | rfl | exact rfl | kernel_rfl
        intro ws_ hblk hput
        have n0_ := Aside0.mk (hput.below (by repeat (first | (with_reducible first | exact HB.out | apply below_alloc | apply pw_below_drewN | apply below_drew1) | exact HB.out)) GEg7.out)
        have n1_ := Aside0.mk (hput.blk (by (with_reducible repeat (first | refine blk_drewN ?_ _ | refine blk_drew ?_ | refine blk_alloc ?_ _)); exact BKg2.out) NEg2_g7.out)
        have n2_ := Aside0.mk (hput.blk (by (with_reducible repeat (first | refine blk_drewN ?_ _ | refine blk_drew ?_ | refine blk_alloc ?_ _)); exact BKg3.out) NEg3_g7.out)
        have n3_ := Aside0.mk (hput.blk (by (with_reducible repeat (first | refine blk_drewN ?_ _ | refine blk_drew ?_ | refine blk_alloc ?_ _)); exact BKg6.out) NEg6_g7.out)
        have n4_ := Aside0.mk hblk
        clear HB BKg2 BKg3 BKg6 BKg7
        have HB := n0_
        have BKg2 := n1_
        have BKg3 := n2_
        have BKg6 := n3_
        have BKg7 := n4_
        clear n0_ n1_ n2_ n3_ n4_
        clear hblk hput
        refine hK.out _ _ ⟨(by repeat (first | (with_reducible first | exact HB.out | apply below_alloc | apply pw_below_drewN | apply below_drew1) | exact HB.out)), by (with_reducible repeat (first | refine blk_drewN ?_ _ | refine blk_drew ?_ | refine blk_alloc ?_ _)); exact BKg2.out, by (with_reducible repeat (first | refine blk_drewN ?_ _ | refine blk_drew ?_ | refine blk_alloc ?_ _)); exact BKg3.out⟩ (fun hHeld => ?_)
        clear hK K
        refine done_ (by kernel_rfl) ?_
        obtain ⟨z1_0, z1_1, z1_2, z1_3, z1_4, z1_5, z1_6, z1_7, z1_8, z1_9, z1_10, z1_11, z1_12, z1_13, z1_14, z1_15⟩ := cells_G BKg2.out
        have f1_ := blk_frozen BKg2.out
        obtain ⟨z2_0, z2_1, z2_2, z2_3, z2_4, z2_5, z2_6, z2_7, z2_8, z2_9, z2_10, z2_11, z2_12, z2_13, z2_14, z2_15⟩ := cells_G BKg3.out
        have f2_ := blk_frozen BKg3.out
        obtain ⟨z3_0, z3_1, z3_2, z3_3, z3_4, z3_5⟩ := cells_P BKg6.out
        have f3_ := blk_frozen BKg6.out
        obtain ⟨z4_0, z4_1, z4_2, z4_3, z4_4, z4_5⟩ := cells_P BKg7.out
        have f4_ := blk_frozen BKg7.out
        go_wp2
        go_roundg k1
        case measure => omega
        case rel => exact ⟨x + 1, by first | rfl | (simp [*]; done), ⟨by have i_ := HI.out; have c_ := c4k.out; refine ⟨by omega, by omega, by omega⟩⟩, ⟨by (with_reducible repeat (first | refine blk_drewN ?_ _ | refine blk_drew ?_ | refine blk_alloc ?_ _)); exact BKg2.out⟩, ⟨by (with_reducible repeat (first | refine blk_drewN ?_ _ | refine blk_drew ?_ | refine blk_alloc ?_ _)); exact BKg3.out⟩, ⟨(by repeat (first | (with_reducible first | exact HB.out | apply below_alloc | apply pw_below_drewN | apply below_drew1) | exact HB.out))⟩⟩
      · refine box_step ?hg (N := 7) ?hd (cs := (pl z52)) (t := 52) ?hr ?_
        (case hd => rfl)
        (case hg => rfl)
        (case hr => first | (go_simp; done) | (go_simp; rfl))
        intro g7 hg wg7_ hbox hb
        have GEg7 := Aside0.mk ((by rw [hg]; exact (below_size (by repeat (first | (with_reducible first | exact HB.out | apply below_alloc | apply pw_below_drewN | apply below_drew1) | exact HB.out))) : w.heap.size ≤ g7))
        have NEg2_g7 := Aside0.mk (by rw [hg]; exact Nat.ne_of_lt (blk_lt (by (with_reducible repeat (first | refine blk_drewN ?_ _ | refine blk_drew ?_ | refine blk_alloc ?_ _)); exact BKg2.out)) : g2 ≠ g7)
        have NEg3_g7 := Aside0.mk (by rw [hg]; exact Nat.ne_of_lt (blk_lt (by (with_reducible repeat (first | refine blk_drewN ?_ _ | refine blk_drew ?_ | refine blk_alloc ?_ _)); exact BKg3.out)) : g3 ≠ g7)
        have n0_ := Aside0.mk (below_step (by repeat (first | (with_reducible first | exact HB.out | apply below_alloc | apply pw_below_drewN | apply below_drew1) | exact HB.out)) hb)
        have n1_ := Aside0.mk (blk_below (g := g2) (o := .cells (gm b win ⟨some ad, qn, pc⟩ ⟨ua, un, uc⟩) 37 (0, 0)) (by (with_reducible repeat (first | refine blk_drewN ?_ _ | refine blk_drew ?_ | refine blk_alloc ?_ _)); exact BKg2.out) hb)
        have n2_ := Aside0.mk (blk_below (g := g3) (o := .cells (gm b win ⟨some ad', qn, qc⟩ ⟨va, vn, vc⟩) 37 (0, 0)) (by (with_reducible repeat (first | refine blk_drewN ?_ _ | refine blk_drew ?_ | refine blk_alloc ?_ _)); exact BKg3.out) hb)
        clear HB BKg2 BKg3
        have HB := n0_
        have BKg2 := n1_
        have BKg3 := n2_
        clear n0_ n1_ n2_
        have BKg7 := Aside0.mk hbox
        clear hb hbox hg
        refine hK.out _ _ ⟨(by repeat (first | (with_reducible first | exact HB.out | apply below_alloc | apply pw_below_drewN | apply below_drew1) | exact HB.out)), by (with_reducible repeat (first | refine blk_drewN ?_ _ | refine blk_drew ?_ | refine blk_alloc ?_ _)); exact BKg2.out, by (with_reducible repeat (first | refine blk_drewN ?_ _ | refine blk_drew ?_ | refine blk_alloc ?_ _)); exact BKg3.out⟩ (fun hHeld => ?_)
        clear hK K
        refine norm_ (a' := ?_) ?_ ?_
        rotate_left
        · show Act.put _ (some 7) _ = _
          simp only [Act.put, List.setIfInBounds_toArray, List.set_cons_zero, List.set_cons_succ, i64_w, i32_w]
          rfl
        refine one_ (i := 10) (N := some 6) #[true, true, true, true, true, true, true, true, true, true, true, true, false, false] rfl rfl (by kernel_rfl) (by decide) (fun K hK => ?_)
        refine box_step ?hg (N := 6) ?hd (cs := (pl z52)) (t := 52) ?hr ?_
        (case hd => rfl)
        (case hg => rfl)
        (case hr => first | (go_simp; done) | (go_simp; rfl))
        intro g6 hg wg6_ hbox hb
        have GEg6 := Aside0.mk ((by rw [hg]; exact (below_size (by repeat (first | (with_reducible first | exact HB.out | apply below_alloc | apply pw_below_drewN | apply below_drew1) | exact HB.out))) : w.heap.size ≤ g6))
        have NEg2_g6 := Aside0.mk (by rw [hg]; exact Nat.ne_of_lt (blk_lt (by (with_reducible repeat (first | refine blk_drewN ?_ _ | refine blk_drew ?_ | refine blk_alloc ?_ _)); exact BKg2.out)) : g2 ≠ g6)
        have NEg3_g6 := Aside0.mk (by rw [hg]; exact Nat.ne_of_lt (blk_lt (by (with_reducible repeat (first | refine blk_drewN ?_ _ | refine blk_drew ?_ | refine blk_alloc ?_ _)); exact BKg3.out)) : g3 ≠ g6)
        have NEg7_g6 := Aside0.mk (by rw [hg]; exact Nat.ne_of_lt (blk_lt (by (with_reducible repeat (first | refine blk_drewN ?_ _ | refine blk_drew ?_ | refine blk_alloc ?_ _)); exact BKg7.out)) : g7 ≠ g6)
        have n0_ := Aside0.mk (below_step (by repeat (first | (with_reducible first | exact HB.out | apply below_alloc | apply pw_below_drewN | apply below_drew1) | exact HB.out)) hb)
        have n1_ := Aside0.mk (blk_below (g := g2) (o := .cells (gm b win ⟨some ad, qn, pc⟩ ⟨ua, un, uc⟩) 37 (0, 0)) (by (with_reducible repeat (first | refine blk_drewN ?_ _ | refine blk_drew ?_ | refine blk_alloc ?_ _)); exact BKg2.out) hb)
        have n2_ := Aside0.mk (blk_below (g := g3) (o := .cells (gm b win ⟨some ad', qn, qc⟩ ⟨va, vn, vc⟩) 37 (0, 0)) (by (with_reducible repeat (first | refine blk_drewN ?_ _ | refine blk_drew ?_ | refine blk_alloc ?_ _)); exact BKg3.out) hb)
        have n3_ := Aside0.mk (blk_below (g := g7) (o := .cells (pl z52) 52 (0, 0)) (by (with_reducible repeat (first | refine blk_drewN ?_ _ | refine blk_drew ?_ | refine blk_alloc ?_ _)); exact BKg7.out) hb)
        clear HB BKg2 BKg3 BKg7
        have HB := n0_
        have BKg2 := n1_
        have BKg3 := n2_
        have BKg7 := n3_
        clear n0_ n1_ n2_ n3_
        have BKg6 := Aside0.mk hbox
        clear hb hbox hg
        refine hK.out _ _ ⟨(by repeat (first | (with_reducible first | exact HB.out | apply below_alloc | apply pw_below_drewN | apply below_drew1) | exact HB.out)), by (with_reducible repeat (first | refine blk_drewN ?_ _ | refine blk_drew ?_ | refine blk_alloc ?_ _)); exact BKg2.out, by (with_reducible repeat (first | refine blk_drewN ?_ _ | refine blk_drew ?_ | refine blk_alloc ?_ _)); exact BKg3.out⟩ (fun hHeld => ?_)
        clear hK K
        refine norm_ (a' := ?_) ?_ ?_
        rotate_left
        · show Act.put _ (some 6) _ = _
          simp only [Act.put, List.setIfInBounds_toArray, List.set_cons_zero, List.set_cons_succ, i64_w, i32_w]
          rfl
        refine one_ (i := 12) (N := none) #[true, true, true, true, true, true, true, true, true, true, true, true, true, false] rfl rfl (by kernel_rfl) (by decide) (fun K hK => ?_)
        refine store_P_step (g := g6) (p := z52) (q := rd_T52 ps x) (by rfl) (.tmp 6) (.tmp 40) ?h1_ rfl ?h2_ ?h3_ BKg6.out ?_
        case h1_ => first | rfl | exact rfl | kernel_rfl
        case h2_ => first | rfl | exact rfl | kernel_rfl
        case h3_ => first | rfl | exact rfl | kernel_rfl
        intro ws_ hblk hput
        have n0_ := Aside0.mk (hput.below (by repeat (first | (with_reducible first | exact HB.out | apply below_alloc | apply pw_below_drewN | apply below_drew1) | exact HB.out)) GEg6.out)
        have n1_ := Aside0.mk (hput.blk (by (with_reducible repeat (first | refine blk_drewN ?_ _ | refine blk_drew ?_ | refine blk_alloc ?_ _)); exact BKg2.out) NEg2_g6.out)
        have n2_ := Aside0.mk (hput.blk (by (with_reducible repeat (first | refine blk_drewN ?_ _ | refine blk_drew ?_ | refine blk_alloc ?_ _)); exact BKg3.out) NEg3_g6.out)
        have n3_ := Aside0.mk (hput.blk (by (with_reducible repeat (first | refine blk_drewN ?_ _ | refine blk_drew ?_ | refine blk_alloc ?_ _)); exact BKg7.out) NEg7_g6.out)
        have n4_ := Aside0.mk hblk
        clear HB BKg2 BKg3 BKg7 BKg6
        have HB := n0_
        have BKg2 := n1_
        have BKg3 := n2_
        have BKg7 := n3_
        have BKg6 := n4_
        clear n0_ n1_ n2_ n3_ n4_
        clear hblk hput
        refine hK.out _ _ ⟨(by repeat (first | (with_reducible first | exact HB.out | apply below_alloc | apply pw_below_drewN | apply below_drew1) | exact HB.out)), by (with_reducible repeat (first | refine blk_drewN ?_ _ | refine blk_drew ?_ | refine blk_alloc ?_ _)); exact BKg2.out, by (with_reducible repeat (first | refine blk_drewN ?_ _ | refine blk_drew ?_ | refine blk_alloc ?_ _)); exact BKg3.out⟩ (fun hHeld => ?_)
        clear hK K
        refine one_ (i := 13) (N := none) #[true, true, true, true, true, true, true, true, true, true, true, true, true, true] rfl rfl (by kernel_rfl) (by decide) (fun K hK => ?_)
        refine store_P_step (g := g7) (p := z52) (q := rd_T52 ps x) (by rfl) (.tmp 7) (.tmp 45) ?h1_ rfl ?h2_ ?h3_ BKg7.out ?_
        case h1_ => first | rfl | exact rfl | kernel_rfl
        case h2_ => first | rfl | exact rfl | kernel_rfl
        case h3_ => first | rfl | exact rfl | kernel_rfl
        intro ws_ hblk hput
        have n0_ := Aside0.mk (hput.below (by repeat (first | (with_reducible first | exact HB.out | apply below_alloc | apply pw_below_drewN | apply below_drew1) | exact HB.out)) GEg7.out)
        have n1_ := Aside0.mk (hput.blk (by (with_reducible repeat (first | refine blk_drewN ?_ _ | refine blk_drew ?_ | refine blk_alloc ?_ _)); exact BKg2.out) NEg2_g7.out)
        have n2_ := Aside0.mk (hput.blk (by (with_reducible repeat (first | refine blk_drewN ?_ _ | refine blk_drew ?_ | refine blk_alloc ?_ _)); exact BKg3.out) NEg3_g7.out)
        have n3_ := Aside0.mk hblk
        have n4_ := Aside0.mk (hput.blk (by (with_reducible repeat (first | refine blk_drewN ?_ _ | refine blk_drew ?_ | refine blk_alloc ?_ _)); exact BKg6.out) (Ne.symm NEg7_g6.out))
        clear HB BKg2 BKg3 BKg7 BKg6
        have HB := n0_
        have BKg2 := n1_
        have BKg3 := n2_
        have BKg7 := n3_
        have BKg6 := n4_
        clear n0_ n1_ n2_ n3_ n4_
        clear hblk hput
        refine hK.out _ _ ⟨(by repeat (first | (with_reducible first | exact HB.out | apply below_alloc | apply pw_below_drewN | apply below_drew1) | exact HB.out)), by (with_reducible repeat (first | refine blk_drewN ?_ _ | refine blk_drew ?_ | refine blk_alloc ?_ _)); exact BKg2.out, by (with_reducible repeat (first | refine blk_drewN ?_ _ | refine blk_drew ?_ | refine blk_alloc ?_ _)); exact BKg3.out⟩ (fun hHeld => ?_)
        clear hK K
        refine done_ (by kernel_rfl) ?_
        obtain ⟨z1_0, z1_1, z1_2, z1_3, z1_4, z1_5, z1_6, z1_7, z1_8, z1_9, z1_10, z1_11, z1_12, z1_13, z1_14, z1_15⟩ := cells_G BKg2.out
        have f1_ := blk_frozen BKg2.out
        obtain ⟨z2_0, z2_1, z2_2, z2_3, z2_4, z2_5, z2_6, z2_7, z2_8, z2_9, z2_10, z2_11, z2_12, z2_13, z2_14, z2_15⟩ := cells_G BKg3.out
        have f2_ := blk_frozen BKg3.out
        obtain ⟨z3_0, z3_1, z3_2, z3_3, z3_4, z3_5⟩ := cells_P BKg7.out
        have f3_ := blk_frozen BKg7.out
        obtain ⟨z4_0, z4_1, z4_2, z4_3, z4_4, z4_5⟩ := cells_P BKg6.out
        have f4_ := blk_frozen BKg6.out
        go_wp2
        go_roundg k1
        case measure => omega
        case rel => exact ⟨x + 1, by first | rfl | (simp [*]; done), ⟨by have i_ := HI.out; have c_ := c4k.out; refine ⟨by omega, by omega, by omega⟩⟩, ⟨by (with_reducible repeat (first | refine blk_drewN ?_ _ | refine blk_drew ?_ | refine blk_alloc ?_ _)); exact BKg2.out⟩, ⟨by (with_reducible repeat (first | refine blk_drewN ?_ _ | refine blk_drew ?_ | refine blk_alloc ?_ _)); exact BKg3.out⟩, ⟨(by repeat (first | (with_reducible first | exact HB.out | apply below_alloc | apply pw_below_drewN | apply below_drew1) | exact HB.out))⟩⟩
    · have c4b := decide_eq_false c4
      clear c4 hi hnn
      obtain ⟨z1_0, z1_1, z1_2, z1_3, z1_4, z1_5, z1_6, z1_7, z1_8, z1_9, z1_10, z1_11, z1_12, z1_13, z1_14, z1_15⟩ := cells_G BKg2.out
      have f1_ := blk_frozen BKg2.out
      obtain ⟨z2_0, z2_1, z2_2, z2_3, z2_4, z2_5, z2_6, z2_7, z2_8, z2_9, z2_10, z2_11, z2_12, z2_13, z2_14, z2_15⟩ := cells_G BKg3.out
      have f2_ := blk_frozen BKg3.out
      go_wp2_with (first | (go_at_call 19; (with_reducible refine (sameAll_calls ⟨ua, un, uc⟩ ⟨va, vn, vc⟩ us _ (by repeat (first | exact HU.out.below HB.out | refine Rw.alloc ?_ _ | refine Rw.drewN ?_ _ | refine Rw.drew ?_)) (by repeat (first | exact HU'.out.below HB.out | refine Rw.alloc ?_ _ | refine Rw.drewN ?_ _ | refine Rw.drew ?_)) HN.out.2 (fun y hy => Dp.below (HD.out y hy) (by repeat (first | (with_reducible first | exact HB.out | apply below_alloc | apply pw_below_drewN | apply below_drew1) | exact HB.out)))).mono ?_); rintro e wc_ ⟨rfl, hb⟩; have n0_ := Aside0.mk (below_step (by repeat (first | (with_reducible first | exact HB.out | apply below_alloc | apply pw_below_drewN | apply below_drew1) | exact HB.out)) hb); have n1_ := Aside0.mk (blk_below (g := g2) (o := .cells (gm b win ⟨pa, qn, pc⟩ ⟨ua, un, uc⟩) 37 (0, 0)) (by (with_reducible repeat (first | refine blk_drewN ?_ _ | refine blk_drew ?_ | refine blk_alloc ?_ _)); exact BKg2.out) hb); have n2_ := Aside0.mk (blk_below (g := g3) (o := .cells (gm b win ⟨qa, qn, qc⟩ ⟨va, vn, vc⟩) 37 (0, 0)) (by (with_reducible repeat (first | refine blk_drewN ?_ _ | refine blk_drew ?_ | refine blk_alloc ?_ _)); exact BKg3.out) hb); clear HB BKg2 BKg3; have HB := n0_; have BKg2 := n1_; have BKg3 := n2_; clear n0_ n1_ n2_; (try clear hb); obtain ⟨z3_0, z3_1, z3_2, z3_3, z3_4, z3_5, z3_6, z3_7, z3_8, z3_9, z3_10, z3_11, z3_12, z3_13, z3_14, z3_15⟩ := cells_G BKg2.out; have f3_ := blk_frozen BKg2.out; obtain ⟨z4_0, z4_1, z4_2, z4_3, z4_4, z4_5, z4_6, z4_7, z4_8, z4_9, z4_10, z4_11, z4_12, z4_13, z4_14, z4_15⟩ := cells_G BKg3.out; have f4_ := blk_frozen BKg3.out))
      go_ret
      exact ⟨rfl, (by repeat (first | (with_reducible first | exact HB.out | apply below_alloc | apply pw_below_drewN | apply below_drew1) | exact HB.out))⟩

end Go.Proofs.Ytolcofjdjbnimaa.V
