/- Chapter 33: an entity compared with itself, a list of entities with an equal one. -/
import Derived.Test.YtolcofjdjbnimaaV8
namespace Go.Proofs.Ytolcofjdjbnimaa.V
open Go.RowKit Go.Proofs.YtolcofjdjbnimaaW.PrintWords Go.Proofs.YtolcofjdjbnimaaW.PrintLast Go.Proofs.YtolcofjdjbnimaaW.PrintMore
attribute [local go_sem] max2_int min2_int max_two min_two max_three min_three max_four min_four   -- for this text's walks alone
set_option linter.unusedVariables false
set_option linter.unusedSimpArgs false

attribute [local go_sem high] eqA62 eqA76 eqA80 eqA65
/-- An entity's orders and jobs are rows that can be read. -/
def Dp (w : World) (x : S69) : Prop := ∃ (os : List S80) (js : List S76), Rw k80 w x.f9 os ∧ os.length ≤ maxLen ∧ Rw k76 w x.f10 js ∧ js.length ≤ maxLen
theorem Dp.below {w w1 : World} {x : S69} (h : Dp w x) (hb : Below w.heap.size w w1) : Dp w1 x := by
  obtain ⟨os, js, h1, h2, h3, h4⟩ := h
  exact ⟨os, js, h1.below hb, h2, h3.below hb, h4⟩

set_option maxHeartbeats 8000000 in
set_option maxRecDepth 100000 in
theorem same1_calls (x : S69) (w : World) (hd : Dp w x) : Calls Try.prog 29 #[.agg (en x), .agg (en x)] w fun e w' => e = .returned (.bool true) ∧ Below w.heap.size w w' := by
  have hu69 := Try.underlying69
  have hu76 := Try.underlying76
  have hu65 := Try.underlying65
  obtain ⟨f0, f1, f2, ⟨q0, q1⟩, f4, f5, f6, f7, f8, ⟨oa, on, oc⟩, ⟨ja, jn, jc⟩⟩ := x
  obtain ⟨os, js, ho, hol, hj, hjl⟩ := hd
  have HO := Aside0.mk ho
  have HJ := Aside0.mk hj
  have hjn : jn = js.length := hj.len
  have HN : Aside0 (os.length ≤ maxLen ∧ jn ≤ 9223372036854775807) := ⟨hol, by unfold maxLen at hjl; omega⟩
  clear ho hj hol hjl hjn
  have HB := Aside0.mk (Below.refl w.heap.size w)
  go_enter Try.func29, Try.ntmps29
  go_wp2_with (first | ((with_reducible refine gate_dst (N := 2) rfl ?_); refine box_event ?hg (N := 2) ?hd (cs := (en ⟨f0, f1, f2, ⟨q0, q1⟩, f4, f5, f6, f7, f8, ⟨oa, on, oc⟩, ⟨ja, jn, jc⟩⟩)) (t := 69) ?hr ?_; (case hd => rfl); (case hg => rfl); (case hr => first | (go_simp; done) | (go_simp; rfl)); intro g2 hg wg2_ hbox hb; have GEg2 := Aside0.mk ((by rw [hg]; exact (below_size (by repeat (first | (with_reducible first | exact HB.out | apply below_alloc | apply pw_below_drewN | apply below_drew1) | exact HB.out))) : w.heap.size ≤ g2)); have n0_ := Aside0.mk (below_step (by repeat (first | (with_reducible first | exact HB.out | apply below_alloc | apply pw_below_drewN | apply below_drew1) | exact HB.out)) hb); clear HB; have HB := n0_; clear n0_; have BKg2 := Aside0.mk hbox; clear hb hbox hg) | ((with_reducible refine gate_dst (N := 3) rfl ?_); refine box_event ?hg (N := 3) ?hd (cs := (en ⟨f0, f1, f2, ⟨q0, q1⟩, f4, f5, f6, f7, f8, ⟨oa, on, oc⟩, ⟨ja, jn, jc⟩⟩)) (t := 69) ?hr ?_; (case hd => rfl); (case hg => rfl); (case hr => first | (go_simp; done) | (go_simp; rfl)); intro g3 hg wg3_ hbox hb; have GEg3 := Aside0.mk ((by rw [hg]; exact (below_size (by repeat (first | (with_reducible first | exact HB.out | apply below_alloc | apply pw_below_drewN | apply below_drew1) | exact HB.out))) : w.heap.size ≤ g3)); have NEg2_g3 := Aside0.mk (by rw [hg]; exact Nat.ne_of_lt (blk_lt (by (with_reducible repeat (first | refine blk_drewN ?_ _ | refine blk_drew ?_ | refine blk_alloc ?_ _)); exact BKg2.out)) : g2 ≠ g3); have n0_ := Aside0.mk (below_step (by repeat (first | (with_reducible first | exact HB.out | apply below_alloc | apply pw_below_drewN | apply below_drew1) | exact HB.out)) hb); have n1_ := Aside0.mk (blk_below (g := g2) (o := .cells (en ⟨f0, f1, f2, ⟨q0, q1⟩, f4, f5, f6, f7, f8, ⟨oa, on, oc⟩, ⟨ja, jn, jc⟩⟩) 69 (0, 0)) (by (with_reducible repeat (first | refine blk_drewN ?_ _ | refine blk_drew ?_ | refine blk_alloc ?_ _)); exact BKg2.out) hb); clear HB BKg2; have HB := n0_; have BKg2 := n1_; clear n0_ n1_; have BKg3 := Aside0.mk hbox; clear hb hbox hg; obtain ⟨z1_0, z1_1, z1_2, z1_3, z1_4, z1_5, z1_6, z1_7, z1_8, z1_9, z1_10, z1_11⟩ := cells_E BKg2.out; have f1_ := blk_frozen BKg2.out; obtain ⟨z2_0, z2_1, z2_2, z2_3, z2_4, z2_5, z2_6, z2_7, z2_8, z2_9, z2_10, z2_11⟩ := cells_E BKg3.out; have f2_ := blk_frozen BKg3.out))
  go_loopg [5] (jn + 1) (fun kq v5 w' => ∃ (x : Int), v5 = .int .i64 x ∧ Aside0 (0 ≤ x ∧ x ≤ jn ∧ (kq : Int) + x ≥ jn + 1) ∧ Aside0 (w'.heap[g2]? = some (.cells (en ⟨f0, f1, f2, ⟨q0, q1⟩, f4, f5, f6, f7, f8, ⟨oa, on, oc⟩, ⟨ja, jn, jc⟩⟩) 69 (0, 0))) ∧ Aside0 (w'.heap[g3]? = some (.cells (en ⟨f0, f1, f2, ⟨q0, q1⟩, f4, f5, f6, f7, f8, ⟨oa, on, oc⟩, ⟨ja, jn, jc⟩⟩) 69 (0, 0))) ∧ Aside0 (Below w.heap.size w w'))
  case atStart => exact ⟨0, rfl, ⟨by omega⟩, ⟨by (with_reducible repeat (first | refine blk_drewN ?_ _ | refine blk_drew ?_ | refine blk_alloc ?_ _)); exact BKg2.out⟩, ⟨by (with_reducible repeat (first | refine blk_drewN ?_ _ | refine blk_drew ?_ | refine blk_alloc ?_ _)); exact BKg3.out⟩, ⟨(by repeat (first | (with_reducible first | exact HB.out | apply below_alloc | apply pw_below_drewN | apply below_drew1) | exact HB.out))⟩⟩
  case round =>
    clear HB BKg2 BKg3
    obtain ⟨x, rfl, HI, BKg2, BKg3, HB⟩ := hrel
    have hi := HI.out
    have hnn := HN.out.2
    cases gk with
    | zero => exfalso; omega
    | succ k1 =>
    by_cases c4 : x < (jn : Int)
    · have c4b := decide_eq_true c4
      have p0 : 0 ≤ x := hi.1
      have p0b := decide_eq_true p0
      have hw : wrap64 (x + 1) = x + 1 := wrap64_of (by omega) (by omega)
      obtain ⟨ad, he, h0, h1, h2⟩ := at_W76 HJ.out HB.out x p0 c4
      dsimp only at he
      subst he
      obtain ⟨z1_0, z1_1, z1_2, z1_3, z1_4, z1_5, z1_6, z1_7, z1_8, z1_9, z1_10, z1_11⟩ := cells_E BKg2.out
      have f1_ := blk_frozen BKg2.out
      obtain ⟨z2_0, z2_1, z2_2, z2_3, z2_4, z2_5, z2_6, z2_7, z2_8, z2_9, z2_10, z2_11⟩ := cells_E BKg3.out
      have f2_ := blk_frozen BKg3.out
      replace p0 := eq_true p0
      have c4k := Aside0.mk c4
      replace c4 := eq_true c4
      clear hi hnn
      go_wp2
      repeat (go_quiet (fail); try go_wp2)
      go_roundg k1
      case measure => omega
      case rel => exact ⟨x + 1, by first | rfl | (simp [*]; done), ⟨by have i_ := HI.out; have c_ := c4k.out; refine ⟨by omega, by omega, by omega⟩⟩, ⟨by (with_reducible repeat (first | refine blk_drewN ?_ _ | refine blk_drew ?_ | refine blk_alloc ?_ _)); exact BKg2.out⟩, ⟨by (with_reducible repeat (first | refine blk_drewN ?_ _ | refine blk_drew ?_ | refine blk_alloc ?_ _)); exact BKg3.out⟩, ⟨(by repeat (first | (with_reducible first | exact HB.out | apply below_alloc | apply pw_below_drewN | apply below_drew1) | exact HB.out))⟩⟩
    · have c4b := decide_eq_false c4
      clear c4 hi hnn
      obtain ⟨z1_0, z1_1, z1_2, z1_3, z1_4, z1_5, z1_6, z1_7, z1_8, z1_9, z1_10, z1_11⟩ := cells_E BKg2.out
      have f1_ := blk_frozen BKg2.out
      obtain ⟨z2_0, z2_1, z2_2, z2_3, z2_4, z2_5, z2_6, z2_7, z2_8, z2_9, z2_10, z2_11⟩ := cells_E BKg3.out
      have f2_ := blk_frozen BKg3.out
      go_wp2_with (first | (go_at_call 35; (with_reducible refine (sameOrders_calls ⟨oa, on, oc⟩ ⟨oa, on, oc⟩ os _ (by repeat (first | exact HO.out.below HB.out | refine Rw.alloc ?_ _ | refine Rw.drewN ?_ _ | refine Rw.drew ?_)) (by repeat (first | exact HO.out.below HB.out | refine Rw.alloc ?_ _ | refine Rw.drewN ?_ _ | refine Rw.drew ?_)) HN.out.1).mono ?_); rintro e wc_ ⟨rfl, hb⟩; have n0_ := Aside0.mk (below_step (by repeat (first | (with_reducible first | exact HB.out | apply below_alloc | apply pw_below_drewN | apply below_drew1) | exact HB.out)) hb); have n1_ := Aside0.mk (blk_below (g := g2) (o := .cells (en ⟨f0, f1, f2, ⟨q0, q1⟩, f4, f5, f6, f7, f8, ⟨oa, on, oc⟩, ⟨ja, jn, jc⟩⟩) 69 (0, 0)) (by (with_reducible repeat (first | refine blk_drewN ?_ _ | refine blk_drew ?_ | refine blk_alloc ?_ _)); exact BKg2.out) hb); have n2_ := Aside0.mk (blk_below (g := g3) (o := .cells (en ⟨f0, f1, f2, ⟨q0, q1⟩, f4, f5, f6, f7, f8, ⟨oa, on, oc⟩, ⟨ja, jn, jc⟩⟩) 69 (0, 0)) (by (with_reducible repeat (first | refine blk_drewN ?_ _ | refine blk_drew ?_ | refine blk_alloc ?_ _)); exact BKg3.out) hb); clear HB BKg2 BKg3; have HB := n0_; have BKg2 := n1_; have BKg3 := n2_; clear n0_ n1_ n2_; (try clear hb); obtain ⟨z3_0, z3_1, z3_2, z3_3, z3_4, z3_5, z3_6, z3_7, z3_8, z3_9, z3_10, z3_11⟩ := cells_E BKg2.out; have f3_ := blk_frozen BKg2.out; obtain ⟨z4_0, z4_1, z4_2, z4_3, z4_4, z4_5, z4_6, z4_7, z4_8, z4_9, z4_10, z4_11⟩ := cells_E BKg3.out; have f4_ := blk_frozen BKg3.out))
      go_ret
      exact ⟨rfl, (by repeat (first | (with_reducible first | exact HB.out | apply below_alloc | apply pw_below_drewN | apply below_drew1) | exact HB.out))⟩

theorem rd_mem69 {xs : List S69} {x : Int} (h0 : 0 ≤ x) (h1 : x < xs.length) : rd_T69 xs x ∈ xs := by
  obtain ⟨i, rfl⟩ := Int.eq_ofNat_of_zero_le h0
  rw [rd69 xs i (by omega)]
  exact List.getElem_mem _

set_option maxHeartbeats 8000000 in
set_option maxRecDepth 100000 in
theorem sameAll_calls (P P' : RS) (xs : List S69) (w : World) (hR : Rw k69 w P xs) (hR' : Rw k69 w P' xs) (hn : xs.length ≤ 100) (hD : ∀ x ∈ xs, Dp w x) : Calls Try.prog 19 #[.slice P.a P.n P.c, .slice P'.a P'.n P'.c] w fun e w' => e = .returned (.bool true) ∧ Below w.heap.size w w' := by
  have hu69 := Try.underlying69
  obtain ⟨pa, pn, pc⟩ := P
  obtain ⟨qa, qn, qc⟩ := P'
  have hq : qn = pn := hR'.len.trans hR.len.symm
  subst hq
  have HR := Aside0.mk hR
  have HR' := Aside0.mk hR'
  have HD := Aside0.mk hD
  have HN : Aside0 (qn ≤ 100) := ⟨by have l_ : qn = xs.length := hR.len; omega⟩
  clear hR hR' hn hD
  have HB := Aside0.mk (Below.refl w.heap.size w)
  go_enter Try.func19, Try.ntmps19
  go_wp2
  go_loopg [5] (qn + 1) (fun kq v5 w' => ∃ (x : Int), v5 = .int .i64 x ∧ Aside0 (0 ≤ x ∧ x ≤ qn ∧ (kq : Int) + x ≥ qn + 1) ∧ Aside0 (Below w.heap.size w w'))
  case atStart => exact ⟨0, rfl, ⟨by omega⟩, ⟨(by repeat (first | (with_reducible first | exact HB.out | apply below_alloc | apply pw_below_drewN | apply below_drew1) | exact HB.out))⟩⟩
  case round =>
    clear HB
    obtain ⟨x, rfl, HI, HB⟩ := hrel
    have hi := HI.out
    have hnn := HN.out
    cases gk with
    | zero => exfalso; omega
    | succ k1 =>
    by_cases c4 : x < (qn : Int)
    · have c4b := decide_eq_true c4
      have p0 : 0 ≤ x := hi.1
      have p0b := decide_eq_true p0
      have hw : wrap64 (x + 1) = x + 1 := wrap64_of (by omega) (by omega)
      obtain ⟨ad, he, -⟩ := at_E HR.out HB.out x p0 c4
      obtain ⟨ad', he', -⟩ := at_E HR'.out HB.out x p0 c4
      dsimp only at he he'
      subst he
      subst he'
      replace p0 := eq_true p0
      have c4k := Aside0.mk c4
      replace c4 := eq_true c4
      clear hi hnn
      try go_wp2
      have n0_ := Aside0.mk (below_drew1 (by repeat (first | (with_reducible first | exact HB.out | apply below_alloc | apply pw_below_drewN | apply below_drew1) | exact HB.out)))
      clear HB
      have HB := n0_
      clear n0_
      refine start_ (n := 10) (S := (fun w' => Below w.heap.size w w')) (ds := []) #[false, false, false, false, false, false, false, false, false, false] (by kernel_rfl) rfl rfl HB.out (fun hHeld => ?_)
      refine pure_ (i := 0) (N := some 17) (v := ?_) (a' := ?_) #[true, false, false, false, false, false, false, false, false, false] rfl rfl (by kernel_rfl) (fun _ _ _ h => h) (Or.inl ⟨by rfl, ?_⟩) ?_ ?_
      rotate_left
      · intro w'
        go_simp
        with_reducible rfl
      rotate_left
      · simp only [Act.put, List.setIfInBounds_toArray, List.set_cons_zero, List.set_cons_succ, i64_w, i32_w]
        rfl
      refine pure_ (i := 1) (N := some 18) (v := ?_) (a' := ?_) #[true, true, false, false, false, false, false, false, false, false] rfl rfl (by kernel_rfl) (fun _ _ _ h => h) (Or.inl ⟨by rfl, ?_⟩) ?_ ?_
      rotate_left
      · intro w'
        go_simp
        with_reducible rfl
      rotate_left
      · simp only [Act.put, List.setIfInBounds_toArray, List.set_cons_zero, List.set_cons_succ, i64_w, i32_w]
        rfl
      refine pure_ (i := 2) (N := some 19) (v := ?_) (a' := ?_) #[true, true, true, false, false, false, false, false, false, false] rfl rfl (by kernel_rfl) (fun _ _ _ h => h) (Or.inl ⟨by rfl, ?_⟩) ?_ ?_
      rotate_left
      · intro w'
        go_simp
        with_reducible rfl
      rotate_left
      · simp only [Act.put, List.setIfInBounds_toArray, List.set_cons_zero, List.set_cons_succ, i64_w, i32_w]
        rfl
      refine pure_ (i := 4) (N := some 21) (v := ?_) (a' := ?_) #[true, true, true, false, true, false, false, false, false, false] rfl rfl (by kernel_rfl) (fun _ _ _ h => h) (Or.inl ⟨by rfl, ?_⟩) ?_ ?_
      rotate_left
      · intro w'
        go_simp
        with_reducible rfl
      rotate_left
      · simp only [Act.put, List.setIfInBounds_toArray, List.set_cons_zero, List.set_cons_succ, i64_w, i32_w]
        rfl
      refine pure_ (i := 5) (N := some 22) (v := ?_) (a' := ?_) #[true, true, true, false, true, true, false, false, false, false] rfl rfl (by kernel_rfl) (fun _ _ _ h => h) (Or.inl ⟨by rfl, ?_⟩) ?_ ?_
      rotate_left
      · intro w'
        go_simp
        with_reducible rfl
      rotate_left
      · simp only [Act.put, List.setIfInBounds_toArray, List.set_cons_zero, List.set_cons_succ, i64_w, i32_w]
        rfl
      refine pure_ (i := 6) (N := some 23) (v := ?_) (a' := ?_) #[true, true, true, false, true, true, true, false, false, false] rfl rfl (by kernel_rfl) (fun _ _ _ h => h) (Or.inl ⟨by rfl, ?_⟩) ?_ ?_
      rotate_left
      · intro w'
        go_simp
        with_reducible rfl
      rotate_left
      · simp only [Act.put, List.setIfInBounds_toArray, List.set_cons_zero, List.set_cons_succ, i64_w, i32_w]
        rfl
      refine take_ (i := 3) (N := some 20) (v := ?_) (a' := ?_) #[true, true, true, true, true, true, true, false, false, false] rfl rfl (by kernel_rfl) (fun _ _ _ h => h) (Or.inl ⟨by rfl, ?_⟩) hHeld ?_ ?_
      rotate_left
      · intro w' s_
        refine at_load_E HR.out s_ x HI.out.1 c4k.out ad rfl (.tmp 19) ?h1_ ?h2_
        case h1_ => first | rfl | exact rfl | kernel_rfl
        case h2_ => first | rfl | exact rfl | kernel_rfl
      rotate_left
      · simp only [Act.put, List.setIfInBounds_toArray, List.set_cons_zero, List.set_cons_succ, i64_w, i32_w]
        rfl
      refine take_ (i := 7) (N := some 24) (v := ?_) (a' := ?_) #[true, true, true, true, true, true, true, true, false, false] rfl rfl (by kernel_rfl) (fun _ _ _ h => h) (Or.inl ⟨by rfl, ?_⟩) hHeld ?_ ?_
      rotate_left
      · intro w' s_
        refine at_load_E HR'.out s_ x HI.out.1 c4k.out ad' rfl (.tmp 23) ?h1_ ?h2_
        case h1_ => first | rfl | exact rfl | kernel_rfl
        case h2_ => first | rfl | exact rfl | kernel_rfl
      rotate_left
      · simp only [Act.put, List.setIfInBounds_toArray, List.set_cons_zero, List.set_cons_succ, i64_w, i32_w]
        rfl
      refine one_ (i := 8) (N := some 25) #[true, true, true, true, true, true, true, true, true, false] rfl rfl (by kernel_rfl) (by decide) (fun K hK => ?_)
      refine goes_ Try.func29 (by kernel_rfl) rfl #[.agg (en (rd_T69 xs x)), .agg (en (rd_T69 xs x))] (by rfl) rfl rfl (by (try simp only [List.map_toArray, List.map_cons, List.map_nil]); first | done | rfl | (simp only [List.length_drop, List.length_take]; rfl)) ?_
      with_reducible refine (same1_calls (rd_T69 xs x) _ (Dp.below (HD.out _ (rd_mem69 HI.out.1 (by have c_ := c4k.out; have l_ : qn = xs.length := HR.out.len; omega))) HB.out)).mono ?_
      rintro e wc8_ ⟨rfl, hb⟩
      refine ⟨_, rfl, ?_⟩
      have n0_ := Aside0.mk (below_step (by repeat (first | (with_reducible first | exact HB.out | apply below_alloc | apply pw_below_drewN | apply below_drew1) | exact HB.out)) hb)
      clear HB
      have HB := n0_
      clear n0_
      (try clear hb)
      refine hK.out _ _ HB.out (fun hHeld => ?_)
      clear hK K
      refine norm_ (a' := ?_) ?_ ?_
      rotate_left
      · show Act.put _ (some 25) _ = _
        simp only [Act.put, List.setIfInBounds_toArray, List.set_cons_zero, List.set_cons_succ, i64_w, i32_w]
        rfl
      refine pure_ (i := 9) (N := some 26) (v := ?_) (a' := ?_) #[true, true, true, true, true, true, true, true, true, true] rfl rfl (by kernel_rfl) (fun _ _ _ h => h) (Or.inl ⟨by rfl, ?_⟩) ?_ ?_
      rotate_left
      · intro w'
        go_simp
        with_reducible rfl
      rotate_left
      · simp only [Act.put, List.setIfInBounds_toArray, List.set_cons_zero, List.set_cons_succ, i64_w, i32_w]
        rfl
      refine done_ (by kernel_rfl) ?_
      go_wp2
      go_roundg k1
      case measure => omega
      case rel => exact ⟨x + 1, by first | rfl | (simp [*]; done), ⟨by have i_ := HI.out; have c_ := c4k.out; refine ⟨by omega, by omega, by omega⟩⟩, ⟨(by repeat (first | (with_reducible first | exact HB.out | apply below_alloc | apply pw_below_drewN | apply below_drew1) | exact HB.out))⟩⟩
    · have c4b := decide_eq_false c4
      clear c4 hi hnn
      go_wp2
      go_ret
      exact ⟨rfl, (by repeat (first | (with_reducible first | exact HB.out | apply below_alloc | apply pw_below_drewN | apply below_drew1) | exact HB.out))⟩

end Go.Proofs.Ytolcofjdjbnimaa.V
