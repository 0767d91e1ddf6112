/- Chapter 33: the walk of VictoryTeams. -/
import Derived.Test.YtolcofjdjbnimaaV21
namespace Go.Proofs.Ytolcofjdjbnimaa.V
open Go.RowKit Go.Proofs.YtolcofjdjbnimaaW.PrintWords Go.Proofs.YtolcofjdjbnimaaW.PrintLast Go.Proofs.YtolcofjdjbnimaaW.PrintMore
attribute [local go_sem] max2_int min2_int max_two min_two max_three min_three max_four min_four   -- for this text's walks alone
set_option linter.unusedVariables false
set_option linter.unusedSimpArgs false

abbrev kI : Kd Int := Kd.int .i64
theorem info3 : (Try.prog.info? 3).map (fun i => (i.zero, i.size, i.bytes)) = some (some (.int .i64 0), 1, 8) := by kernel_rfl
section
variable {ops : Array Oper} {rest : List Oper} {o : Oper} {a : Act} {Q : Exit → Act → World → Prop}
theorem app3_event {w W : World} {R : RS} {xs : List Int} (hgd : o.guard = none) (s x : Operand) (ho : o.op = .call { callee := .builtin .append, args := #[s, x], argTypes := #[54, 54] }) (p : Int) (hs : a.eval s = .slice R.a R.n R.c) (hx : a.eval x = .slice (some ⟨W.heap.size, 0, none⟩) 1 1)
    (HO : Ow kI 3 W w.heap.size R xs) (HB : Below w.heap.size w W) (hl : xs.length ≤ 1000)
    (hk : ∀ R' w1, Ow kI 3 w1 w.heap.size R' (xs ++ [p]) → Below w.heap.size w w1 → W.grownBy w1 (Value.slice R.a R.n R.c).ownBlock → wpList Try.prog ops Q rest (a.put o.dst (.slice R'.a R'.n R'.c)) w1) : wpList Try.prog ops Q (o :: rest) a (W.alloc (.cells #[.int .i64 p] 3 (0, 0))) := by
  refine Kd.R_append kI (w0 := w) w.heap.size hgd s x 54 3 (.int .i64 0) 8 ho Try.underlying54 info3 rfl (by decide) (by omega) _ xs p [.int .i64 p] (fun _ => True) (fun _ => False) hs hx rfl (fun _ h => h.elim) (fun _ _ => trivial) HO HB HB.size (by omega) (fun v1 w1 h1 h2 h3 _ => ?_)
  obtain ⟨A, c, rfl⟩ := Kd.R_slice h1
  exact hk ⟨A, _, c⟩ w1 h1 h2 h3
end
theorem at_I {w w1 : World} {P : RS} {xs : List Int} (h : Rw kI w P xs) (hb : Below w.heap.size w w1) (i : Int) (h0 : 0 ≤ i) (h1 : i < P.n) : ∃ ad, P.a = some ad ∧ w1.cell? (ad.add (i.toNat * 1)) = some (.int .i64 (xs.getD i.toNat 0)) := by
  obtain ⟨ad, c, e, _, hK, hc⟩ := Kd.C_get (h.below hb).c 0 i h0 h1
  obtain rfl : c = [.int .i64 (xs.getD i.toNat 0)] := hK
  exact ⟨ad, e, hc 0 _ rfl⟩
theorem last_I {xs : List Int} (h : xs ≠ []) : xs.getLast? = some (xs.getD (xs.length - 1) 0) := by
  rw [List.getLast?_eq_getElem?, List.getD_eq_getElem?_getD]
  have : xs.length - 1 < xs.length := by have := List.length_pos_iff.mpr h; omega
  rw [List.getElem?_eq_getElem this]
  rfl
/-- A second Phase. -/
theorem again_calls (b : B) (win : Int) (P U : RS) (ps : List S52) (us : List S69) (m : Int) (w : World) (hw : m = phW win us ps) (hR : Rw k52 w P (phP us ps)) (hU : Rw k69 w U us) (hn : P.n ≤ 100) (hm : U.n ≤ 100) : Calls Try.prog 13 #[.agg (gm b m P U)] w fun e w' => ∃ P' E' : RS, e = .returned (.tuple #[.agg (gm b m P' U), .slice E'.a E'.n E'.c]) ∧ Rw k52 w' P' (phP us ps) ∧ E'.n = 0 ∧ Below w.heap.size w w' := by
  have h := phase_calls b (phW win us ps) P U (phP us ps) us w hR hU hn hm
  rw [phW_phW, phP_phP, phV_phV, ← hw] at h
  refine h.mono ?_
  rintro e w' ⟨P', E', rfl, h1, h2, h3⟩
  exact ⟨P', E', rfl, h1, h2.len, h3⟩
theorem ph_n {w w1 : World} {P P1 : RS} {ps : List S52} {us : List S69} (h1 : Rw k52 w1 P1 (phP us ps)) (h : Rw k52 w P ps) (hn : P.n ≤ 100) : P1.n ≤ 100 := by
  have h2 := h1.len
  rw [ph_len] at h2
  have := h.len
  omega
theorem us_le {w : World} {U : RS} {us : List S69} (h : Rw k69 w U us) (hn : U.n ≤ 100) : us.length ≤ 100 := by
  rw [← h.len]; exact hn
theorem cell_I {w w1 : World} {ad : Addr} {c : Nat} {m : Int} (h : Rw kI w ⟨some ad, 1, c⟩ [m]) (hb : Below w.heap.size w w1) : w1.cell? ad = some (.int .i64 m) := by
  obtain ⟨ad', he, h1⟩ := at_I h hb 0 (Int.le_refl 0) (by show (0 : Int) < ((1 : Nat) : Int); decide)
  cases he
  rw [show ad.add (Int.toNat 0 * 1) = ad from Addr.add_zero' ad] at h1
  exact h1

set_option maxHeartbeats 16000000 in
set_option maxRecDepth 100000 in
theorem lawTeams_calls (b : B) (win : Int) (P U : RS) (ps : List S52) (us : List S69) (w : World) (hR : Rw k52 w P ps) (hU : Rw k69 w U us) (hD : ∀ x ∈ us, Dp w x) : Calls Try.prog 6 #[.agg (gm b win P U)] w fun e w' => e = .returned (.bool true) ∧ Below w.heap.size w w' := by
  have hu37 := Try.underlying37
  have hu52 := Try.underlying52
  obtain ⟨pa, pn, pc⟩ := P
  obtain ⟨ua, un, uc⟩ := U
  have HR := Aside0.mk hR
  have HU := Aside0.mk hU
  have HD := Aside0.mk hD
  clear hR hU hD
  have HB := Aside0.mk (Below.refl w.heap.size w)
  by_cases c : pn ≤ 100 ∧ un ≤ 100
  · have HN := Aside0.mk c
    clear c
    go_enter Try.func6, Try.ntmps6
    go_wp2_with (first | ((with_reducible refine gate_dst (N := 1) rfl ?_); refine box_event ?hg (N := 1) ?hd (cs := (gm b win ⟨pa, pn, pc⟩ ⟨ua, un, uc⟩)) (t := 37) ?hr ?_; (case hd => rfl); (case hg => rfl); (case hr => first | (go_simp; done) | (go_simp; rfl)); intro g1 hg wb1_ hbox hb; have GEg1_HB := Aside0.mk (by rw [hg]; exact (below_size (by repeat (first | (with_reducible first | exact HB.out | apply below_alloc | apply pw_below_drewN | apply below_drew1) | exact HB.out))) : w.heap.size ≤ g1); have n0_ := Aside0.mk (below_step (by repeat (first | (with_reducible first | exact HB.out | apply below_alloc | apply pw_below_drewN | apply below_drew1) | exact HB.out)) hb); clear HB; have HB := n0_; clear n0_; have BKg1 := Aside0.mk hbox; clear hb hbox hg) | ((with_reducible refine gate_dst (N := 14) rfl ?_); refine load_G_event rfl _ rfl rfl (by (with_reducible repeat (first | refine blk_drewN ?_ _ | refine blk_drew ?_ | refine blk_alloc ?_ _)); exact BKg1.out) ?_) | (go_at_call 7; (with_reducible refine (few_yes b win ⟨pa, pn, pc⟩ ⟨ua, un, uc⟩ _ HN.out.1 HN.out.2).mono ?_); rintro e wc2_ ⟨rfl, hb⟩; have n0_ := Aside0.mk (below_step (by repeat (first | (with_reducible first | exact HB.out | apply below_alloc | apply pw_below_drewN | apply below_drew1) | exact HB.out)) hb); have n1_ := Aside0.mk (blk_below (g := g1) (o := .cells (gm b win ⟨pa, pn, pc⟩ ⟨ua, un, uc⟩) 37 (0, 0)) (by (with_reducible repeat (first | refine blk_drewN ?_ _ | refine blk_drew ?_ | refine blk_alloc ?_ _)); exact BKg1.out) hb); clear HB BKg1; have HB := n0_; have BKg1 := n1_; clear n0_ n1_; (try clear hb); obtain ⟨z3_0, z3_1, z3_2, z3_3, z3_4, z3_5, z3_6, z3_7, z3_8, z3_9, z3_10, z3_11, z3_12, z3_13, z3_14, z3_15⟩ := cells_G BKg1.out; have f3_ := blk_frozen BKg1.out))
    go_loopg [3] 200 (fun kq v3 w' => ∃ (x : Int), v3 = .int .i64 x ∧ Aside0 (0 ≤ x ∧ x ≤ pn ∧ (kq : Int) + x ≥ 101) ∧ Aside0 (∀ j : Int, 0 ≤ j → j < x → 1 ≤ (rd_T52 ps j).f1) ∧ Aside0 (∀ i j : Int, 0 ≤ j → j < i → i < x → (rd_T52 ps i).f0 ≠ (rd_T52 ps j).f0) ∧ Aside0 (w'.heap[g1]? = some (.cells (gm b win ⟨pa, pn, pc⟩ ⟨ua, un, uc⟩) 37 (0, 0))) ∧ Aside0 (Below w.heap.size w w'))
    case atStart => exact ⟨0, rfl, ⟨by have := HN.out.1; omega⟩, ⟨fun j h1 h2 => by omega⟩, ⟨fun i j h1 h2 h3 => by omega⟩, ⟨by (with_reducible repeat (first | refine blk_drewN ?_ _ | refine blk_drew ?_ | refine blk_alloc ?_ _)); exact BKg1.out⟩, ⟨(by repeat (first | (with_reducible first | exact HB.out | apply below_alloc | apply pw_below_drewN | apply below_drew1) | exact HB.out))⟩⟩
    case round =>
      clear BKg1 HB
      obtain ⟨x, rfl, HI, HT, HU1, BKg1, HB⟩ := hrel
      have hi := HI.out
      have hnn : pn ≤ 100 := HN.out.1
      cases gk with
      | zero => exfalso; omega
      | succ k1 =>
      by_cases c4 : x < (pn : Int)
      · have c4b := decide_eq_true c4
        have p0 : 0 ≤ x := hi.1
        have p0b := decide_eq_true p0
        have hw : wrap64 (x + 1) = x + 1 := wrap64_of (by omega) (by omega)
        obtain ⟨ad, he, -⟩ := at_P HR.out HB.out x p0 c4
        dsimp only at he
        subst he
        obtain ⟨z1_0, z1_1, z1_2, z1_3, z1_4, z1_5, z1_6, z1_7, z1_8, z1_9, z1_10, z1_11, z1_12, z1_13, z1_14, z1_15⟩ := cells_G BKg1.out
        have f1_ := blk_frozen BKg1.out
        replace p0 := eq_true p0
        have c4k := Aside0.mk c4
        replace c4 := eq_true c4
        clear hi hnn
        go_wp2
        go_loopg [4] 200 (fun kq v4 w' => ∃ (y : Int), v4 = .int .i64 y ∧ Aside0 (0 ≤ y ∧ y ≤ x ∧ (kq : Int) + y ≥ 101) ∧ Aside0 (∀ j : Int, 0 ≤ j → j < y → (rd_T52 ps x).f0 ≠ (rd_T52 ps j).f0) ∧ Aside0 (w'.heap[g1]? = some (.cells (gm b win ⟨some ad, pn, pc⟩ ⟨ua, un, uc⟩) 37 (0, 0))) ∧ Aside0 (Below w.heap.size w w'))
        case atStart => exact ⟨0, rfl, ⟨by have := HN.out.1; have := HI.out; omega⟩, ⟨fun j h1 h2 => by omega⟩, ⟨by (with_reducible repeat (first | refine blk_drewN ?_ _ | refine blk_drew ?_ | refine blk_alloc ?_ _)); exact BKg1.out⟩, ⟨(by repeat (first | (with_reducible first | exact HB.out | apply below_alloc | apply pw_below_drewN | apply below_drew1) | exact HB.out))⟩⟩
        case round =>
          clear BKg1 HB
          obtain ⟨y, rfl, HY, HZ, BKg1, HB⟩ := hrel
          have hi := HY.out
          have hxx := HI.out
          have hnn : pn ≤ 100 := HN.out.1
          cases gk with
          | zero => exfalso; omega
          | succ k2 =>
          by_cases c5 : y < x
          · have c5b := decide_eq_true c5
            have q0 : 0 ≤ y := hi.1
            have q1 : y < (pn : Int) := by omega
            have q0b := decide_eq_true q0
            have q1b := decide_eq_true q1
            have hw2 : wrap64 (y + 1) = y + 1 := wrap64_of (by omega) (by omega)
            have q0k := Aside0.mk q0
            have q1k := Aside0.mk q1
            have c5k := Aside0.mk c5
            replace q0 := eq_true q0
            replace q1 := eq_true q1
            replace c5 := eq_true c5
            clear hi hxx hnn
            obtain ⟨z1_0, z1_1, z1_2, z1_3, z1_4, z1_5, z1_6, z1_7, z1_8, z1_9, z1_10, z1_11, z1_12, z1_13, z1_14, z1_15⟩ := cells_G BKg1.out
            have f1_ := blk_frozen BKg1.out
            go_wp2
            have n0_ := Aside0.mk (blk_drew BKg1.out)
            clear BKg1
            have BKg1 := n0_
            clear n0_
            have n0_ := Aside0.mk (below_drew1 (by repeat (first | (with_reducible first | exact HB.out | apply below_alloc | apply pw_below_drewN | apply below_drew1) | exact HB.out)))
            clear HB
            have HB := n0_
            clear n0_
            refine start_ (n := 13) (S := (fun w' => Below w.heap.size w w' ∧ w'.heap[g1]? = some (.cells (gm b win ⟨some ad, pn, pc⟩ ⟨ua, un, uc⟩) 37 (0, 0)))) (ds := []) #[false, false, false, false, false, false, false, false, false, false, false, false, false] (by kernel_rfl) rfl rfl ⟨(by repeat (first | (with_reducible first | exact HB.out | apply below_alloc | apply pw_below_drewN | apply below_drew1) | exact HB.out)), by (with_reducible repeat (first | refine blk_drewN ?_ _ | refine blk_drew ?_ | refine blk_alloc ?_ _)); exact BKg1.out⟩ (fun hHeld => ?_)
            refine pure_ (i := 0) (N := some 30) (v := ?_) (a' := ?_) #[true, false, false, false, false, false, false, false, false, false, false, false, false] rfl rfl (by kernel_rfl) (fun _ _ _ h => h) (Or.inl ⟨by rfl, ?_⟩) ?_ ?_
            rotate_left
            · intro w'
              go_simp
              with_reducible rfl
            rotate_left
            · simp only [Act.put, List.setIfInBounds_toArray, List.set_cons_zero, List.set_cons_succ, i64_w, i32_w]
              rfl
            refine take_ (i := 1) (N := some 31) (v := ?_) (a' := ?_) #[true, true, false, false, false, false, false, false, false, false, false, false, false] rfl rfl (by kernel_rfl) (fun _ _ _ h => h) (Or.inl ⟨by rfl, ?_⟩) hHeld ?_ ?_
            rotate_left
            · rintro w' s_
              obtain ⟨z_0, z_1, z_2, z_3, z_4, z_5, z_6, z_7, z_8, z_9, z_10, z_11, z_12, z_13, z_14, z_15⟩ := cells_G s_.2
              go_simp
              with_reducible rfl
            rotate_left
            · simp only [Act.put, List.setIfInBounds_toArray, List.set_cons_zero, List.set_cons_succ, i64_w, i32_w]
              rfl
            refine pure_ (i := 2) (N := some 32) (v := ?_) (a' := ?_) #[true, true, true, false, false, false, false, false, false, false, false, false, false] rfl rfl (by kernel_rfl) (fun _ _ _ h => h) (Or.inl ⟨by rfl, ?_⟩) ?_ ?_
            rotate_left
            · intro w'
              go_simp
              with_reducible rfl
            rotate_left
            · simp only [Act.put, List.setIfInBounds_toArray, List.set_cons_zero, List.set_cons_succ, i64_w, i32_w]
              rfl
            refine pure_ (i := 3) (N := some 33) (v := ?_) (a' := ?_) #[true, true, true, true, false, false, false, false, false, false, false, false, false] rfl rfl (by kernel_rfl) (fun _ _ _ h => h) (Or.inl ⟨by rfl, ?_⟩) ?_ ?_
            rotate_left
            · intro w'
              go_simp
              with_reducible rfl
            rotate_left
            · simp only [Act.put, List.setIfInBounds_toArray, List.set_cons_zero, List.set_cons_succ, i64_w, i32_w]
              rfl
            refine pure_ (i := 4) (N := some 34) (v := ?_) (a' := ?_) #[true, true, true, true, true, false, false, false, false, false, false, false, false] rfl rfl (by kernel_rfl) (fun _ _ _ h => h) (Or.inl ⟨by rfl, ?_⟩) ?_ ?_
            rotate_left
            · intro w'
              go_simp
              with_reducible rfl
            rotate_left
            · simp only [Act.put, List.setIfInBounds_toArray, List.set_cons_zero, List.set_cons_succ, i64_w, i32_w]
              rfl
            refine take_ (i := 5) (N := some 35) (v := ?_) (a' := ?_) #[true, true, true, true, true, true, false, false, false, false, false, false, false] rfl rfl (by kernel_rfl) (fun _ _ _ h => h) (Or.inl ⟨by rfl, ?_⟩) hHeld ?_ ?_
            rotate_left
            · rintro w' s_
              obtain ⟨_, he_, h0_, -⟩ := at_P HR.out s_.1 x (of_decide_eq_true p0b) c4k.out
              dsimp only at he_
              cases he_
              go_simp
              with_reducible rfl
            rotate_left
            · simp only [Act.put, List.setIfInBounds_toArray, List.set_cons_zero, List.set_cons_succ, i64_w, i32_w]
              rfl
            refine pure_ (i := 6) (N := some 36) (v := ?_) (a' := ?_) #[true, true, true, true, true, true, true, false, false, false, false, false, false] rfl rfl (by kernel_rfl) (fun _ _ _ h => h) (Or.inl ⟨by rfl, ?_⟩) ?_ ?_
            rotate_left
            · intro w'
              go_simp
              with_reducible rfl
            rotate_left
            · simp only [Act.put, List.setIfInBounds_toArray, List.set_cons_zero, List.set_cons_succ, i64_w, i32_w]
              rfl
            refine take_ (i := 7) (N := some 37) (v := ?_) (a' := ?_) #[true, true, true, true, true, true, true, true, false, false, false, false, false] rfl rfl (by kernel_rfl) (fun _ _ _ h => h) (Or.inl ⟨by rfl, ?_⟩) hHeld ?_ ?_
            rotate_left
            · rintro w' s_
              obtain ⟨z_0, z_1, z_2, z_3, z_4, z_5, z_6, z_7, z_8, z_9, z_10, z_11, z_12, z_13, z_14, z_15⟩ := cells_G s_.2
              go_simp
              with_reducible rfl
            rotate_left
            · simp only [Act.put, List.setIfInBounds_toArray, List.set_cons_zero, List.set_cons_succ, i64_w, i32_w]
              rfl
            refine pure_ (i := 8) (N := some 38) (v := ?_) (a' := ?_) #[true, true, true, true, true, true, true, true, true, false, false, false, false] rfl rfl (by kernel_rfl) (fun _ _ _ h => h) (Or.inl ⟨by rfl, ?_⟩) ?_ ?_
            rotate_left
            · intro w'
              go_simp
              with_reducible rfl
            rotate_left
            · simp only [Act.put, List.setIfInBounds_toArray, List.set_cons_zero, List.set_cons_succ, i64_w, i32_w]
              rfl
            refine pure_ (i := 9) (N := some 39) (v := ?_) (a' := ?_) #[true, true, true, true, true, true, true, true, true, true, false, false, false] rfl rfl (by kernel_rfl) (fun _ _ _ h => h) (Or.inl ⟨by rfl, ?_⟩) ?_ ?_
            rotate_left
            · intro w'
              go_simp
              with_reducible rfl
            rotate_left
            · simp only [Act.put, List.setIfInBounds_toArray, List.set_cons_zero, List.set_cons_succ, i64_w, i32_w]
              rfl
            refine pure_ (i := 10) (N := some 40) (v := ?_) (a' := ?_) #[true, true, true, true, true, true, true, true, true, true, true, false, false] rfl rfl (by kernel_rfl) (fun _ _ _ h => h) (Or.inl ⟨by rfl, ?_⟩) ?_ ?_
            rotate_left
            · intro w'
              go_simp
              with_reducible rfl
            rotate_left
            · simp only [Act.put, List.setIfInBounds_toArray, List.set_cons_zero, List.set_cons_succ, i64_w, i32_w]
              rfl
            refine take_ (i := 11) (N := some 41) (v := ?_) (a' := ?_) #[true, true, true, true, true, true, true, true, true, true, true, true, false] rfl rfl (by kernel_rfl) (fun _ _ _ h => h) (Or.inl ⟨by rfl, ?_⟩) hHeld ?_ ?_
            rotate_left
            · rintro w' s_
              obtain ⟨_, he_, h0_, -⟩ := at_P HR.out s_.1 y q0k.out q1k.out
              dsimp only at he_
              cases he_
              go_simp
              with_reducible rfl
            rotate_left
            · simp only [Act.put, List.setIfInBounds_toArray, List.set_cons_zero, List.set_cons_succ, i64_w, i32_w]
              rfl
            refine pure_ (i := 12) (N := some 42) (v := ?_) (a' := ?_) #[true, true, true, true, true, true, true, true, true, true, true, true, true] rfl rfl (by kernel_rfl) (fun _ _ _ h => h) (Or.inl ⟨by rfl, ?_⟩) ?_ ?_
            rotate_left
            · intro w'
              go_simp
              with_reducible rfl
            rotate_left
            · simp only [Act.put, List.setIfInBounds_toArray, List.set_cons_zero, List.set_cons_succ, i64_w, i32_w]
              rfl
            refine done_ (by kernel_rfl) ?_
            by_cases e : (rd_T52 ps x).f0 = (rd_T52 ps y).f0
            · have eb : ((rd_T52 ps x).f0 == (rd_T52 ps y).f0) = true := beq_iff_eq.mpr e
              clear e
              go_wp2_with (first | (go_at_call 12; (with_reducible refine (awake_calls _).mono ?_); rintro e wc1_ ⟨rfl, hb⟩; have n0_ := Aside0.mk (below_step (by repeat (first | (with_reducible first | exact HB.out | apply below_alloc | apply pw_below_drewN | apply below_drew1) | exact HB.out)) hb); have n1_ := Aside0.mk (blk_below (g := g1) (o := .cells (gm b win ⟨some ad, pn, pc⟩ ⟨ua, un, uc⟩) 37 (0, 0)) (by (with_reducible repeat (first | refine blk_drewN ?_ _ | refine blk_drew ?_ | refine blk_alloc ?_ _)); exact BKg1.out) hb); clear HB BKg1; have HB := n0_; have BKg1 := n1_; clear n0_ n1_; (try clear hb)))
              go_ret
              exact ⟨rfl, (by repeat (first | (with_reducible first | exact HB.out | apply below_alloc | apply pw_below_drewN | apply below_drew1) | exact HB.out))⟩
            · have eb : ((rd_T52 ps x).f0 == (rd_T52 ps y).f0) = false := beq_eq_false_iff_ne.mpr e
              have ek := Aside0.mk e
              clear e
              go_wp2
              go_roundg k2
              case measure => omega
              case rel => exact ⟨y + 1, by first | rfl | (simp [*]; done), ⟨by have := HY.out; have := c5k.out; refine ⟨by omega, by omega, by omega⟩⟩, ⟨fun j h1 h2 => by
                by_cases e : j = y
                · rw [e]; exact ek.out
                · exact HZ.out j h1 (by omega)⟩, ⟨by (with_reducible repeat (first | refine blk_drewN ?_ _ | refine blk_drew ?_ | refine blk_alloc ?_ _)); exact BKg1.out⟩, ⟨(by repeat (first | (with_reducible first | exact HB.out | apply below_alloc | apply pw_below_drewN | apply below_drew1) | exact HB.out))⟩⟩
          · have c5b := decide_eq_false c5
            have c5k := Aside0.mk c5
            obtain ⟨_, he_, h0, h1, h2, h3, h4, h5⟩ := at_P HR.out HB.out x (of_decide_eq_true p0b) c4k.out
            dsimp only at he_
            cases he_
            clear c5 hi hxx hnn
            obtain ⟨z1_0, z1_1, z1_2, z1_3, z1_4, z1_5, z1_6, z1_7, z1_8, z1_9, z1_10, z1_11, z1_12, z1_13, z1_14, z1_15⟩ := cells_G BKg1.out
            have f1_ := blk_frozen BKg1.out
            by_cases e : (rd_T52 ps x).f1 < 1
            · have eb := decide_eq_true e
              clear e
              go_wp2_with (first | (go_at_call 12; (with_reducible refine (awake_calls _).mono ?_); rintro e wc1_ ⟨rfl, hb⟩; have n0_ := Aside0.mk (below_step (by repeat (first | (with_reducible first | exact HB.out | apply below_alloc | apply pw_below_drewN | apply below_drew1) | exact HB.out)) hb); have n1_ := Aside0.mk (blk_below (g := g1) (o := .cells (gm b win ⟨some ad, pn, pc⟩ ⟨ua, un, uc⟩) 37 (0, 0)) (by (with_reducible repeat (first | refine blk_drewN ?_ _ | refine blk_drew ?_ | refine blk_alloc ?_ _)); exact BKg1.out) hb); clear HB BKg1; have HB := n0_; have BKg1 := n1_; clear n0_ n1_; (try clear hb)))
              go_ret
              exact ⟨rfl, (by repeat (first | (with_reducible first | exact HB.out | apply below_alloc | apply pw_below_drewN | apply below_drew1) | exact HB.out))⟩
            · have eb := decide_eq_false e
              have ek := Aside0.mk e
              clear e
              go_wp2
              go_roundg k1
              case measure => omega
              case rel => exact ⟨x + 1, by first | rfl | (simp [*]; done), ⟨by have := HI.out; have := c4k.out; refine ⟨by omega, by omega, by omega⟩⟩, ⟨fun j h1 h2 => by
                by_cases e : j = x
                · rw [e]; have := ek.out; omega
                · exact HT.out j h1 (by omega)⟩, ⟨fun i j h1 h2 h3 => by
                by_cases e : i = x
                · rw [e]; exact HZ.out j h1 (by have := HY.out; have := c5k.out; omega)
                · exact HU1.out i j h1 h2 (by omega)⟩, ⟨by (with_reducible repeat (first | refine blk_drewN ?_ _ | refine blk_drew ?_ | refine blk_alloc ?_ _)); exact BKg1.out⟩, ⟨(by repeat (first | (with_reducible first | exact HB.out | apply below_alloc | apply pw_below_drewN | apply below_drew1) | exact HB.out))⟩⟩
      · have c4b := decide_eq_false c4
        have hT : Aside0 (∀ p ∈ ps, 1 ≤ p.f1) := ⟨fun p hp => by
          obtain ⟨i, hi_, rfl⟩ := List.getElem_of_mem hp
          rw [← rd52 ps i hi_]
          exact HT.out i (by omega) (by have l_ : pn = ps.length := HR.out.len; omega)⟩
        have hUq : Aside0 (∀ i j : Int, 0 ≤ j → j < i → i < ps.length → (rd_T52 ps i).f0 ≠ (rd_T52 ps j).f0) := ⟨fun i j h1 h2 h3 => HU1.out i j h1 h2 (by have l_ : pn = ps.length := HR.out.len; omega)⟩
        clear c4 hi hnn HT HU1 HI
        obtain ⟨z1_0, z1_1, z1_2, z1_3, z1_4, z1_5, z1_6, z1_7, z1_8, z1_9, z1_10, z1_11, z1_12, z1_13, z1_14, z1_15⟩ := cells_G BKg1.out
        have f1_ := blk_frozen BKg1.out
        obtain ⟨m, hm⟩ : ∃ m, m = phW win us ps := ⟨_, rfl⟩
        replace hm := Aside0.mk hm
        have hpp : ((pn : Int) != (pn : Int)) = false := bne_self_eq_false _
        go_wp2_with (first | ((with_reducible refine gate_dst (N := 53) rfl ?_); refine load_G_event rfl _ rfl rfl (by (with_reducible repeat (first | refine blk_drewN ?_ _ | refine blk_drew ?_ | refine blk_alloc ?_ _)); exact BKg1.out) ?_) | (go_at_call 13; (with_reducible refine (phase_calls b win ⟨pa, pn, pc⟩ ⟨ua, un, uc⟩ ps us _ (by repeat (first | exact HR.out.below HB.out | refine Rw.alloc ?_ _ | refine Rw.drewN ?_ _ | refine Rw.drew ?_)) (by repeat (first | exact HU.out.below HB.out | refine Rw.alloc ?_ _ | refine Rw.drewN ?_ _ | refine Rw.drew ?_)) HN.out.1 HN.out.2).mono ?_); rintro e w ⟨⟨p1a, p1n, p1c⟩, ⟨e1a, e1n, e1c⟩, rfl, hP1, hE1, hb⟩; have n0_ := Aside0.mk (below_step (by repeat (first | (with_reducible first | exact HB.out | apply below_alloc | apply pw_below_drewN | apply below_drew1) | exact HB.out)) hb); have n1_ := Aside0.mk (blk_below (g := g1) (o := .cells (gm b win ⟨pa, pn, pc⟩ ⟨ua, un, uc⟩) 37 (0, 0)) (by (with_reducible repeat (first | refine blk_drewN ?_ _ | refine blk_drew ?_ | refine blk_alloc ?_ _)); exact BKg1.out) hb); clear HB BKg1; have HB := n0_; have BKg1 := n1_; clear n0_ n1_; (try clear hb); have HRn := Aside0.mk (HR.out.below HB.out); have HUn := Aside0.mk (HU.out.below HB.out); have HDn := Aside0.mk (fun y hy => Dp.below (HD.out y hy) HB.out); clear HR HU HD; have HR := HRn; have HU := HUn; have HD := HDn; clear HRn HUn HDn; have HB0 := HB; clear HB; have HB := Aside0.mk (Below.refl w.heap.size w); have hq_ : pn = p1n := (by have h1_ := hP1.len; have h2_ := HR.out.len; rw [ph_len] at h1_; exact h2_.trans h1_.symm); subst hq_; rw [← hm.out]; have HP1 := Aside0.mk hP1; have HE1 := Aside0.mk (show e1n = (phV win us ps).length from hE1.len); clear hP1 hE1) | ((with_reducible refine gate_dst (N := 5) rfl ?_); refine box_event ?hg (N := 5) ?hd (cs := (gm B0 0 RS0 RS0)) (t := 37) ?hr ?_; (case hd => rfl); (case hg => rfl); (case hr => first | (go_simp; done) | (go_simp; rfl)); intro g5 hg wb2_ hbox hb; have GEg5_HB := Aside0.mk (by rw [hg]; exact (below_size (by repeat (first | (with_reducible first | exact HB.out | apply below_alloc | apply pw_below_drewN | apply below_drew1) | exact HB.out))) : w.heap.size ≤ g5); have NEg1_g5 := Aside0.mk (by rw [hg]; exact Nat.ne_of_lt (blk_lt (by (with_reducible repeat (first | refine blk_drewN ?_ _ | refine blk_drew ?_ | refine blk_alloc ?_ _)); exact BKg1.out)) : g1 ≠ g5); have n0_ := Aside0.mk (below_step (by repeat (first | (with_reducible first | exact HB.out | apply below_alloc | apply pw_below_drewN | apply below_drew1) | exact HB.out)) hb); have n1_ := Aside0.mk (blk_below (g := g1) (o := .cells (gm b win ⟨pa, pn, pc⟩ ⟨ua, un, uc⟩) 37 (0, 0)) (by (with_reducible repeat (first | refine blk_drewN ?_ _ | refine blk_drew ?_ | refine blk_alloc ?_ _)); exact BKg1.out) hb); clear HB BKg1; have HB := n0_; have BKg1 := n1_; clear n0_ n1_; have BKg5 := Aside0.mk hbox; clear hb hbox hg) | ((with_reducible refine gate_store (t := 37) (p := 5) rfl ?_); refine store_G_event (b' := b) (win' := m) (P' := ⟨p1a, pn, p1c⟩) (U' := ⟨ua, un, uc⟩) rfl _ _ rfl rfl rfl rfl (by (with_reducible repeat (first | refine blk_drewN ?_ _ | refine blk_drew ?_ | refine blk_alloc ?_ _)); exact BKg5.out) ?_; intro wt3_ hblk hput; have n0_ := Aside0.mk (hput.below (by repeat (first | (with_reducible first | exact HB.out | apply below_alloc | apply pw_below_drewN | apply below_drew1) | exact HB.out)) GEg5_HB.out); have n1_ := Aside0.mk (hput.blk (by (with_reducible repeat (first | refine blk_drewN ?_ _ | refine blk_drew ?_ | refine blk_alloc ?_ _)); exact BKg1.out) NEg1_g5.out); have n2_ := Aside0.mk (hblk); clear HB BKg1 BKg5; have HB := n0_; have BKg1 := n1_; have BKg5 := n2_; clear n0_ n1_ n2_; clear hblk hput) | ((with_reducible refine gate_dst (N := 58) rfl ?_); refine load_G_event rfl _ rfl rfl (by (with_reducible repeat (first | refine blk_drewN ?_ _ | refine blk_drew ?_ | refine blk_alloc ?_ _)); exact BKg5.out) ?_) | (go_at_call 13; (with_reducible refine (again_calls b win ⟨p1a, pn, p1c⟩ ⟨ua, un, uc⟩ ps us m _ hm.out (by repeat (first | exact HP1.out.below HB.out | refine Rw.alloc ?_ _ | refine Rw.drewN ?_ _ | refine Rw.drew ?_)) (by repeat (first | exact HU.out.below HB.out | refine Rw.alloc ?_ _ | refine Rw.drewN ?_ _ | refine Rw.drew ?_)) HN.out.1 HN.out.2).mono ?_); rintro e wc4_ ⟨P2, ⟨e2a, e2n, e2c⟩, rfl, hP2, hE2, hb⟩; dsimp only at hE2; subst hE2; have n0_ := Aside0.mk (below_step (by repeat (first | (with_reducible first | exact HB.out | apply below_alloc | apply pw_below_drewN | apply below_drew1) | exact HB.out)) hb); have n1_ := Aside0.mk (blk_below (g := g1) (o := .cells (gm b win ⟨pa, pn, pc⟩ ⟨ua, un, uc⟩) 37 (0, 0)) (by (with_reducible repeat (first | refine blk_drewN ?_ _ | refine blk_drew ?_ | refine blk_alloc ?_ _)); exact BKg1.out) hb); have n2_ := Aside0.mk (blk_below (g := g5) (o := .cells (gm b m ⟨p1a, pn, p1c⟩ ⟨ua, un, uc⟩) 37 (0, 0)) (by (with_reducible repeat (first | refine blk_drewN ?_ _ | refine blk_drew ?_ | refine blk_alloc ?_ _)); exact BKg5.out) hb); clear HB BKg1 BKg5; have HB := n0_; have BKg1 := n1_; have BKg5 := n2_; clear n0_ n1_ n2_; have HP2 := Aside0.mk hP2; clear hP2; have C2 := Aside0.mk (Below.refl wc4_.heap.size wc4_); (try clear hb)) | ((with_reducible refine gate_dst (N := 7) rfl ?_); refine box_event ?hg (N := 7) ?hd (cs := (gm B0 0 RS0 RS0)) (t := 37) ?hr ?_; (case hd => rfl); (case hg => rfl); (case hr => first | (go_simp; done) | (go_simp; rfl)); intro g7 hg wb5_ hbox hb; have GEg7_HB := Aside0.mk (by rw [hg]; exact (below_size (by repeat (first | (with_reducible first | exact HB.out | apply below_alloc | apply pw_below_drewN | apply below_drew1) | exact HB.out))) : w.heap.size ≤ g7); have GEg7_C2 := Aside0.mk (by rw [hg]; exact (below_size (by repeat (first | (with_reducible first | exact C2.out | apply below_alloc | apply pw_below_drewN | apply below_drew1) | exact C2.out))) : wc4_.heap.size ≤ g7); have NEg1_g7 := Aside0.mk (by rw [hg]; exact Nat.ne_of_lt (blk_lt (by (with_reducible repeat (first | refine blk_drewN ?_ _ | refine blk_drew ?_ | refine blk_alloc ?_ _)); exact BKg1.out)) : g1 ≠ g7); have NEg5_g7 := Aside0.mk (by rw [hg]; exact Nat.ne_of_lt (blk_lt (by (with_reducible repeat (first | refine blk_drewN ?_ _ | refine blk_drew ?_ | refine blk_alloc ?_ _)); exact BKg5.out)) : g5 ≠ g7); have n0_ := Aside0.mk (below_step (by repeat (first | (with_reducible first | exact HB.out | apply below_alloc | apply pw_below_drewN | apply below_drew1) | exact HB.out)) hb); have n1_ := Aside0.mk (below_step (by repeat (first | (with_reducible first | exact C2.out | apply below_alloc | apply pw_below_drewN | apply below_drew1) | exact C2.out)) hb); have n2_ := Aside0.mk (blk_below (g := g1) (o := .cells (gm b win ⟨pa, pn, pc⟩ ⟨ua, un, uc⟩) 37 (0, 0)) (by (with_reducible repeat (first | refine blk_drewN ?_ _ | refine blk_drew ?_ | refine blk_alloc ?_ _)); exact BKg1.out) hb); have n3_ := Aside0.mk (blk_below (g := g5) (o := .cells (gm b m ⟨p1a, pn, p1c⟩ ⟨ua, un, uc⟩) 37 (0, 0)) (by (with_reducible repeat (first | refine blk_drewN ?_ _ | refine blk_drew ?_ | refine blk_alloc ?_ _)); exact BKg5.out) hb); clear HB C2 BKg1 BKg5; have HB := n0_; have C2 := n1_; have BKg1 := n2_; have BKg5 := n3_; clear n0_ n1_ n2_ n3_; have BKg7 := Aside0.mk hbox; clear hb hbox hg) | ((with_reducible refine gate_store (t := 37) (p := 7) rfl ?_); refine store_G_event (b' := b) (win' := m) (P' := P2) (U' := ⟨ua, un, uc⟩) rfl _ _ rfl rfl rfl rfl (by (with_reducible repeat (first | refine blk_drewN ?_ _ | refine blk_drew ?_ | refine blk_alloc ?_ _)); exact BKg7.out) ?_; intro wt6_ hblk hput; have n0_ := Aside0.mk (hput.below (by repeat (first | (with_reducible first | exact HB.out | apply below_alloc | apply pw_below_drewN | apply below_drew1) | exact HB.out)) GEg7_HB.out); have n1_ := Aside0.mk (hput.below (by repeat (first | (with_reducible first | exact C2.out | apply below_alloc | apply pw_below_drewN | apply below_drew1) | exact C2.out)) GEg7_C2.out); have n2_ := Aside0.mk (hput.blk (by (with_reducible repeat (first | refine blk_drewN ?_ _ | refine blk_drew ?_ | refine blk_alloc ?_ _)); exact BKg1.out) NEg1_g7.out); have n3_ := Aside0.mk (hput.blk (by (with_reducible repeat (first | refine blk_drewN ?_ _ | refine blk_drew ?_ | refine blk_alloc ?_ _)); exact BKg5.out) NEg5_g7.out); have n4_ := Aside0.mk (hblk); clear HB C2 BKg1 BKg5 BKg7; have HB := n0_; have C2 := n1_; have BKg1 := n2_; have BKg5 := n3_; have BKg7 := n4_; clear n0_ n1_ n2_ n3_ n4_; clear hblk hput; obtain ⟨z7_0, z7_1, z7_2, z7_3, z7_4, z7_5, z7_6, z7_7, z7_8, z7_9, z7_10, z7_11, z7_12, z7_13, z7_14, z7_15⟩ := cells_G BKg1.out; have f7_ := blk_frozen BKg1.out; obtain ⟨z8_0, z8_1, z8_2, z8_3, z8_4, z8_5, z8_6, z8_7, z8_8, z8_9, z8_10, z8_11, z8_12, z8_13, z8_14, z8_15⟩ := cells_G BKg5.out; have f8_ := blk_frozen BKg5.out) | ((with_reducible refine gate_dst (N := 66) rfl ?_); refine gate_guard (by rfl) ?_; dsimp only; refine load_G_event rfl _ rfl rfl (by (with_reducible repeat (first | refine blk_drewN ?_ _ | refine blk_drew ?_ | refine blk_alloc ?_ _)); exact BKg7.out) ?_) | ((with_reducible refine gate_dst (N := 67) rfl ?_); refine gate_guard (by rfl) ?_; dsimp only; refine load_G_event rfl _ rfl rfl (by (with_reducible repeat (first | refine blk_drewN ?_ _ | refine blk_drew ?_ | refine blk_alloc ?_ _)); exact BKg5.out) ?_) | (go_at_call 15; (with_reducible refine (same_calls b m P2 ⟨p1a, pn, p1c⟩ ⟨ua, un, uc⟩ ⟨ua, un, uc⟩ (phP us ps) us _ (by repeat (first | exact HP2.out.below C2.out | refine Rw.alloc ?_ _ | refine Rw.drewN ?_ _ | refine Rw.drew ?_)) (by repeat (first | exact HP1.out.below HB.out | refine Rw.alloc ?_ _ | refine Rw.drewN ?_ _ | refine Rw.drew ?_)) (by repeat (first | exact HU.out.below HB.out | refine Rw.alloc ?_ _ | refine Rw.drewN ?_ _ | refine Rw.drew ?_)) (by repeat (first | exact HU.out.below HB.out | refine Rw.alloc ?_ _ | refine Rw.drewN ?_ _ | refine Rw.drew ?_)) (ph_n HP2.out HR.out HN.out.1) (us_le HU.out HN.out.2) (fun y hy => Dp.below (HD.out y hy) (by repeat (first | (with_reducible first | exact HB.out | apply below_alloc | apply pw_below_drewN | apply below_drew1) | exact HB.out)))).mono ?_); rintro e wc9_ ⟨rfl, hb⟩; have n0_ := Aside0.mk (below_step (by repeat (first | (with_reducible first | exact HB.out | apply below_alloc | apply pw_below_drewN | apply below_drew1) | exact HB.out)) hb); have n1_ := Aside0.mk (below_step (by repeat (first | (with_reducible first | exact C2.out | apply below_alloc | apply pw_below_drewN | apply below_drew1) | exact C2.out)) hb); have n2_ := Aside0.mk (blk_below (g := g1) (o := .cells (gm b win ⟨pa, pn, pc⟩ ⟨ua, un, uc⟩) 37 (0, 0)) (by (with_reducible repeat (first | refine blk_drewN ?_ _ | refine blk_drew ?_ | refine blk_alloc ?_ _)); exact BKg1.out) hb); have n3_ := Aside0.mk (blk_below (g := g5) (o := .cells (gm b m ⟨p1a, pn, p1c⟩ ⟨ua, un, uc⟩) 37 (0, 0)) (by (with_reducible repeat (first | refine blk_drewN ?_ _ | refine blk_drew ?_ | refine blk_alloc ?_ _)); exact BKg5.out) hb); have n4_ := Aside0.mk (blk_below (g := g7) (o := .cells (gm b m P2 ⟨ua, un, uc⟩) 37 (0, 0)) (by (with_reducible repeat (first | refine blk_drewN ?_ _ | refine blk_drew ?_ | refine blk_alloc ?_ _)); exact BKg7.out) hb); clear HB C2 BKg1 BKg5 BKg7; have HB := n0_; have C2 := n1_; have BKg1 := n2_; have BKg5 := n3_; have BKg7 := n4_; clear n0_ n1_ n2_ n3_ n4_; (try clear hb); obtain ⟨z10_0, z10_1, z10_2, z10_3, z10_4, z10_5, z10_6, z10_7, z10_8, z10_9, z10_10, z10_11, z10_12, z10_13, z10_14, z10_15⟩ := cells_G BKg1.out; have f10_ := blk_frozen BKg1.out; obtain ⟨z11_0, z11_1, z11_2, z11_3, z11_4, z11_5, z11_6, z11_7, z11_8, z11_9, z11_10, z11_11, z11_12, z11_13, z11_14, z11_15⟩ := cells_G BKg5.out; have f11_ := blk_frozen BKg5.out) | (go_at_call 19; (with_reducible refine (sameAll_calls ⟨ua, un, uc⟩ ⟨ua, un, uc⟩ us _ (by repeat (first | exact HU.out.below HB.out | refine Rw.alloc ?_ _ | refine Rw.drewN ?_ _ | refine Rw.drew ?_)) (by repeat (first | exact HU.out.below HB.out | refine Rw.alloc ?_ _ | refine Rw.drewN ?_ _ | refine Rw.drew ?_)) (us_le HU.out HN.out.2) (fun y hy => Dp.below (HD.out y hy) (by repeat (first | (with_reducible first | exact HB.out | apply below_alloc | apply pw_below_drewN | apply below_drew1) | exact HB.out)))).mono ?_); rintro e wc12_ ⟨rfl, hb⟩; have n0_ := Aside0.mk (below_step (by repeat (first | (with_reducible first | exact HB.out | apply below_alloc | apply pw_below_drewN | apply below_drew1) | exact HB.out)) hb); have n1_ := Aside0.mk (below_step (by repeat (first | (with_reducible first | exact C2.out | apply below_alloc | apply pw_below_drewN | apply below_drew1) | exact C2.out)) hb); have n2_ := Aside0.mk (blk_below (g := g1) (o := .cells (gm b win ⟨pa, pn, pc⟩ ⟨ua, un, uc⟩) 37 (0, 0)) (by (with_reducible repeat (first | refine blk_drewN ?_ _ | refine blk_drew ?_ | refine blk_alloc ?_ _)); exact BKg1.out) hb); have n3_ := Aside0.mk (blk_below (g := g5) (o := .cells (gm b m ⟨p1a, pn, p1c⟩ ⟨ua, un, uc⟩) 37 (0, 0)) (by (with_reducible repeat (first | refine blk_drewN ?_ _ | refine blk_drew ?_ | refine blk_alloc ?_ _)); exact BKg5.out) hb); have n4_ := Aside0.mk (blk_below (g := g7) (o := .cells (gm b m P2 ⟨ua, un, uc⟩) 37 (0, 0)) (by (with_reducible repeat (first | refine blk_drewN ?_ _ | refine blk_drew ?_ | refine blk_alloc ?_ _)); exact BKg7.out) hb); clear HB C2 BKg1 BKg5 BKg7; have HB := n0_; have C2 := n1_; have BKg1 := n2_; have BKg5 := n3_; have BKg7 := n4_; clear n0_ n1_ n2_ n3_ n4_; (try clear hb); obtain ⟨z13_0, z13_1, z13_2, z13_3, z13_4, z13_5, z13_6, z13_7, z13_8, z13_9, z13_10, z13_11, z13_12, z13_13, z13_14, z13_15⟩ := cells_G BKg1.out; have f13_ := blk_frozen BKg1.out; obtain ⟨z14_0, z14_1, z14_2, z14_3, z14_4, z14_5, z14_6, z14_7, z14_8, z14_9, z14_10, z14_11, z14_12, z14_13, z14_14, z14_15⟩ := cells_G BKg5.out; have f14_ := blk_frozen BKg5.out))
        go_loopg [9, 10, 11, 12] 200 (fun kq v9 v10 v11 v12 w' => ∃ (o l x : Int) (T : RS), v9 = .int .i64 o ∧ v10 = .int .i64 l ∧ v11 = .slice T.a T.n T.c ∧ v12 = .int .i64 x ∧ Aside0 (0 ≤ x ∧ x ≤ pn ∧ (kq : Int) + x ≥ 101) ∧ Aside0 (o = (phE us (ps.take x.toNat)).length) ∧ Aside0 (l = leftS ((phP us ps).take x.toNat)) ∧ Aside0 (Ow kI 3 w' w.heap.size T (teamsS ((phP us ps).take x.toNat))) ∧ Aside0 (w'.heap[g1]? = some (.cells (gm b win ⟨pa, pn, pc⟩ ⟨ua, un, uc⟩) 37 (0, 0))) ∧ Aside0 (w'.heap[g5]? = some (.cells (gm b m ⟨p1a, pn, p1c⟩ ⟨ua, un, uc⟩) 37 (0, 0))) ∧ Aside0 (Below w.heap.size w w'))
        case atStart => exact ⟨0, 0, 0, RS0, rfl, rfl, rfl, rfl, ⟨by have := HN.out.1; omega⟩, ⟨rfl⟩, ⟨rfl⟩, ⟨Kd.R_nil _ _ _ _ _⟩, ⟨by (with_reducible repeat (first | refine blk_drewN ?_ _ | refine blk_drew ?_ | refine blk_alloc ?_ _)); exact BKg1.out⟩, ⟨by (with_reducible repeat (first | refine blk_drewN ?_ _ | refine blk_drew ?_ | refine blk_alloc ?_ _)); exact BKg5.out⟩, ⟨(by repeat (first | (with_reducible first | exact HB.out | apply below_alloc | apply pw_below_drewN | apply below_drew1) | exact HB.out))⟩⟩
        case round =>
          clear BKg1 BKg5 BKg7 HB
          obtain ⟨o, l, x, ⟨ta, tn, tc⟩, rfl, rfl, rfl, rfl, HI, HOo, HL, HOt, BKg1, BKg5, HB⟩ := hrel
          have CHOt := Aside0.mk (Below.refl wr.heap.size wr)
          have hi := HI.out
          have hnn : pn ≤ 100 := HN.out.1
          have hol : 0 ≤ o ∧ o ≤ 100 := by have h1_ := HOo.out; have h2_ := phE_len us ps x.toNat; have l_ : pn = ps.length := HR.out.len; omega
          have hll : 0 ≤ l ∧ l ≤ 100 := by have h1_ := HL.out; have h2_ := left_le (phP us ps) x.toNat; rw [ph_len] at h2_; have l_ : pn = ps.length := HR.out.len; omega
          have hwo : wrap64 (o + 1) = o + 1 := wrap64_of (by omega) (by omega)
          have hwl : wrap64 (l + 1) = l + 1 := wrap64_of (by omega) (by omega)
          have htn : Aside0 (tn = (teamsS ((phP us ps).take x.toNat)).length) := ⟨(Kd.R_reads' HOt.out).1⟩
          cases gk with
          | zero => exfalso; omega
          | succ k1 =>
          by_cases c4 : x < (pn : Int)
          · have c4b := decide_eq_true c4
            have p0 : 0 ≤ x := hi.1
            have p0b := decide_eq_true p0
            have hw : wrap64 (x + 1) = x + 1 := wrap64_of (by omega) (by omega)
            obtain ⟨ad, he, -⟩ := at_P HR.out HB.out x p0 c4
            obtain ⟨ad1, he1, -⟩ := at_P HP1.out HB.out x p0 c4
            dsimp only at he he1
            subst he
            subst he1
            replace p0 := eq_true p0
            have c4k := Aside0.mk c4
            replace c4 := eq_true c4
            obtain ⟨q, hq⟩ : ∃ q, q = (rd_T52 (phP us ps) x).f5 := ⟨_, rfl⟩
            obtain ⟨r, hr⟩ : ∃ r, r = (rd_T52 ps x).f5 := ⟨_, rfl⟩
            have hqk := Aside0.mk hq
            have hrk := Aside0.mk hr
            clear hq hr hi hnn hol hll
            cases q with
            | true =>
              cases r with
              | true =>
                obtain ⟨z1_0, z1_1, z1_2, z1_3, z1_4, z1_5, z1_6, z1_7, z1_8, z1_9, z1_10, z1_11, z1_12, z1_13, z1_14, z1_15⟩ := cells_G BKg1.out
                have f1_ := blk_frozen BKg1.out
                obtain ⟨z2_0, z2_1, z2_2, z2_3, z2_4, z2_5, z2_6, z2_7, z2_8, z2_9, z2_10, z2_11, z2_12, z2_13, z2_14, z2_15⟩ := cells_G BKg5.out
                have f2_ := blk_frozen BKg5.out
                obtain ⟨_, he_, h0, h1, h2, h3, h4, h5⟩ := at_P HP1.out HB.out x (of_decide_eq_true p0b) c4k.out
                dsimp only at he_
                cases he_
                obtain ⟨_, he_, i0, i1, i2, i3, i4, i5⟩ := at_P HR.out HB.out x (of_decide_eq_true p0b) c4k.out
                dsimp only at he_
                cases he_
                rw [← hrk.out] at i5
                go_wp2_with (first | ((with_reducible refine gate_dst (N := 13) rfl ?_); refine box_event ?hg (N := 13) ?hd (cs := (pl z52)) (t := 52) ?hr ?_; (case hd => rfl); (case hg => rfl); (case hr => first | (go_simp; done) | (go_simp; rfl)); intro g13 hg wb1_ hbox hb; have GEg13_HB := Aside0.mk (by rw [hg]; exact (below_size (by repeat (first | (with_reducible first | exact HB.out | apply below_alloc | apply pw_below_drewN | apply below_drew1) | exact HB.out))) : w.heap.size ≤ g13); have GEg13_CHOt := Aside0.mk (by rw [hg]; exact (below_size (by repeat (first | (with_reducible first | exact CHOt.out | apply below_alloc | apply pw_below_drewN | apply below_drew1) | exact CHOt.out))) : wr.heap.size ≤ g13); have NEg1_g13 := Aside0.mk (by rw [hg]; exact Nat.ne_of_lt (blk_lt (by (with_reducible repeat (first | refine blk_drewN ?_ _ | refine blk_drew ?_ | refine blk_alloc ?_ _)); exact BKg1.out)) : g1 ≠ g13); have NEg5_g13 := Aside0.mk (by rw [hg]; exact Nat.ne_of_lt (blk_lt (by (with_reducible repeat (first | refine blk_drewN ?_ _ | refine blk_drew ?_ | refine blk_alloc ?_ _)); exact BKg5.out)) : g5 ≠ g13); have n0_ := Aside0.mk (below_step (by repeat (first | (with_reducible first | exact HB.out | apply below_alloc | apply pw_below_drewN | apply below_drew1) | exact HB.out)) hb); have n1_ := Aside0.mk (below_step (by repeat (first | (with_reducible first | exact CHOt.out | apply below_alloc | apply pw_below_drewN | apply below_drew1) | exact CHOt.out)) hb); have n2_ := Aside0.mk (blk_below (g := g1) (o := .cells (gm b win ⟨some ad, pn, pc⟩ ⟨ua, un, uc⟩) 37 (0, 0)) (by (with_reducible repeat (first | refine blk_drewN ?_ _ | refine blk_drew ?_ | refine blk_alloc ?_ _)); exact BKg1.out) hb); have n3_ := Aside0.mk (blk_below (g := g5) (o := .cells (gm b m ⟨some ad1, pn, p1c⟩ ⟨ua, un, uc⟩) 37 (0, 0)) (by (with_reducible repeat (first | refine blk_drewN ?_ _ | refine blk_drew ?_ | refine blk_alloc ?_ _)); exact BKg5.out) hb); clear HB CHOt BKg1 BKg5; have HB := n0_; have CHOt := n1_; have BKg1 := n2_; have BKg5 := n3_; clear n0_ n1_ n2_ n3_; have BKg13 := Aside0.mk hbox; clear hb hbox hg) | ((with_reducible refine gate_store (t := 52) (p := 13) rfl ?_); refine store_P_event (q := (rd_T52 (phP us ps) x)) rfl _ _ rfl rfl rfl rfl (by (with_reducible repeat (first | refine blk_drewN ?_ _ | refine blk_drew ?_ | refine blk_alloc ?_ _)); exact BKg13.out) ?_; intro wt2_ hblk hput; have n0_ := Aside0.mk (hput.below (by repeat (first | (with_reducible first | exact HB.out | apply below_alloc | apply pw_below_drewN | apply below_drew1) | exact HB.out)) GEg13_HB.out); have n1_ := Aside0.mk (hput.below (by repeat (first | (with_reducible first | exact CHOt.out | apply below_alloc | apply pw_below_drewN | apply below_drew1) | exact CHOt.out)) GEg13_CHOt.out); have n2_ := Aside0.mk (hput.blk (by (with_reducible repeat (first | refine blk_drewN ?_ _ | refine blk_drew ?_ | refine blk_alloc ?_ _)); exact BKg1.out) NEg1_g13.out); have n3_ := Aside0.mk (hput.blk (by (with_reducible repeat (first | refine blk_drewN ?_ _ | refine blk_drew ?_ | refine blk_alloc ?_ _)); exact BKg5.out) NEg5_g13.out); have n4_ := Aside0.mk (hblk); clear HB CHOt BKg1 BKg5 BKg13; have HB := n0_; have CHOt := n1_; have BKg1 := n2_; have BKg5 := n3_; have BKg13 := n4_; clear n0_ n1_ n2_ n3_ n4_; clear hblk hput; obtain ⟨z3_0, z3_1, z3_2, z3_3, z3_4, z3_5, z3_6, z3_7, z3_8, z3_9, z3_10, z3_11, z3_12, z3_13, z3_14, z3_15⟩ := cells_G BKg1.out; have f3_ := blk_frozen BKg1.out; obtain ⟨z4_0, z4_1, z4_2, z4_3, z4_4, z4_5, z4_6, z4_7, z4_8, z4_9, z4_10, z4_11, z4_12, z4_13, z4_14, z4_15⟩ := cells_G BKg5.out; have f4_ := blk_frozen BKg5.out; obtain ⟨z5_0, z5_1, z5_2, z5_3, z5_4, z5_5⟩ := cells_P BKg13.out; have f5_ := blk_frozen BKg13.out; rw [← hqk.out] at z5_5; obtain ⟨_, he_, i0, i1, i2, i3, i4, i5⟩ := at_P HR.out HB.out x (of_decide_eq_true p0b) c4k.out; dsimp only at he_; cases he_; rw [← hrk.out] at i5))
                go_roundg k1
                case measure => omega
                case rel => exact ⟨o, l, x + 1, ⟨ta, tn, tc⟩, by first | rfl | (simp [*]; done), by first | rfl | (simp [*]; done), by first | rfl | (simp; done), by first | rfl | (simp [*]; done), ⟨by have := HI.out; have := c4k.out; refine ⟨by omega, by omega, by omega⟩⟩, ⟨by rw [phE_no HI.out.1 (by have l_ : pn = ps.length := HR.out.len; have c_ := c4k.out; omega) (show gone us (rd_T52 ps x) = false by rw [ph_out (us := us) (p := (rd_T52 ps x)) (by rw [← rd_ph HI.out.1 (by have l_ : pn = ps.length := HR.out.len; have c_ := c4k.out; omega), ← hqk.out]), ← hrk.out]; rfl)]; exact HOo.out⟩, ⟨by rw [left_next HI.out.1 (by have l_ : pn = ps.length := HR.out.len; have l2_ := ph_len us ps; have c_ := c4k.out; omega), ← hqk.out]; exact HL.out⟩, ⟨by rw [teams_next HI.out.1 (by have l_ : pn = ps.length := HR.out.len; have l2_ := ph_len us ps; have c_ := c4k.out; omega), addT_out hqk.out.symm]; exact Kd.R_below HOt.out (by repeat (first | (with_reducible first | exact CHOt.out | apply below_alloc | apply pw_below_drewN | apply below_drew1) | exact CHOt.out))⟩, ⟨by (with_reducible repeat (first | refine blk_drewN ?_ _ | refine blk_drew ?_ | refine blk_alloc ?_ _)); exact BKg1.out⟩, ⟨by (with_reducible repeat (first | refine blk_drewN ?_ _ | refine blk_drew ?_ | refine blk_alloc ?_ _)); exact BKg5.out⟩, ⟨(by repeat (first | (with_reducible first | exact HB.out | apply below_alloc | apply pw_below_drewN | apply below_drew1) | exact HB.out))⟩⟩
              | false =>
                obtain ⟨z1_0, z1_1, z1_2, z1_3, z1_4, z1_5, z1_6, z1_7, z1_8, z1_9, z1_10, z1_11, z1_12, z1_13, z1_14, z1_15⟩ := cells_G BKg1.out
                have f1_ := blk_frozen BKg1.out
                obtain ⟨z2_0, z2_1, z2_2, z2_3, z2_4, z2_5, z2_6, z2_7, z2_8, z2_9, z2_10, z2_11, z2_12, z2_13, z2_14, z2_15⟩ := cells_G BKg5.out
                have f2_ := blk_frozen BKg5.out
                obtain ⟨_, he_, h0, h1, h2, h3, h4, h5⟩ := at_P HP1.out HB.out x (of_decide_eq_true p0b) c4k.out
                dsimp only at he_
                cases he_
                obtain ⟨_, he_, i0, i1, i2, i3, i4, i5⟩ := at_P HR.out HB.out x (of_decide_eq_true p0b) c4k.out
                dsimp only at he_
                cases he_
                rw [← hrk.out] at i5
                go_wp2_with (first | ((with_reducible refine gate_dst (N := 13) rfl ?_); refine box_event ?hg (N := 13) ?hd (cs := (pl z52)) (t := 52) ?hr ?_; (case hd => rfl); (case hg => rfl); (case hr => first | (go_simp; done) | (go_simp; rfl)); intro g13 hg wb1_ hbox hb; have GEg13_HB := Aside0.mk (by rw [hg]; exact (below_size (by repeat (first | (with_reducible first | exact HB.out | apply below_alloc | apply pw_below_drewN | apply below_drew1) | exact HB.out))) : w.heap.size ≤ g13); have GEg13_CHOt := Aside0.mk (by rw [hg]; exact (below_size (by repeat (first | (with_reducible first | exact CHOt.out | apply below_alloc | apply pw_below_drewN | apply below_drew1) | exact CHOt.out))) : wr.heap.size ≤ g13); have NEg1_g13 := Aside0.mk (by rw [hg]; exact Nat.ne_of_lt (blk_lt (by (with_reducible repeat (first | refine blk_drewN ?_ _ | refine blk_drew ?_ | refine blk_alloc ?_ _)); exact BKg1.out)) : g1 ≠ g13); have NEg5_g13 := Aside0.mk (by rw [hg]; exact Nat.ne_of_lt (blk_lt (by (with_reducible repeat (first | refine blk_drewN ?_ _ | refine blk_drew ?_ | refine blk_alloc ?_ _)); exact BKg5.out)) : g5 ≠ g13); have n0_ := Aside0.mk (below_step (by repeat (first | (with_reducible first | exact HB.out | apply below_alloc | apply pw_below_drewN | apply below_drew1) | exact HB.out)) hb); have n1_ := Aside0.mk (below_step (by repeat (first | (with_reducible first | exact CHOt.out | apply below_alloc | apply pw_below_drewN | apply below_drew1) | exact CHOt.out)) hb); have n2_ := Aside0.mk (blk_below (g := g1) (o := .cells (gm b win ⟨some ad, pn, pc⟩ ⟨ua, un, uc⟩) 37 (0, 0)) (by (with_reducible repeat (first | refine blk_drewN ?_ _ | refine blk_drew ?_ | refine blk_alloc ?_ _)); exact BKg1.out) hb); have n3_ := Aside0.mk (blk_below (g := g5) (o := .cells (gm b m ⟨some ad1, pn, p1c⟩ ⟨ua, un, uc⟩) 37 (0, 0)) (by (with_reducible repeat (first | refine blk_drewN ?_ _ | refine blk_drew ?_ | refine blk_alloc ?_ _)); exact BKg5.out) hb); clear HB CHOt BKg1 BKg5; have HB := n0_; have CHOt := n1_; have BKg1 := n2_; have BKg5 := n3_; clear n0_ n1_ n2_ n3_; have BKg13 := Aside0.mk hbox; clear hb hbox hg) | ((with_reducible refine gate_store (t := 52) (p := 13) rfl ?_); refine store_P_event (q := (rd_T52 (phP us ps) x)) rfl _ _ rfl rfl rfl rfl (by (with_reducible repeat (first | refine blk_drewN ?_ _ | refine blk_drew ?_ | refine blk_alloc ?_ _)); exact BKg13.out) ?_; intro wt2_ hblk hput; have n0_ := Aside0.mk (hput.below (by repeat (first | (with_reducible first | exact HB.out | apply below_alloc | apply pw_below_drewN | apply below_drew1) | exact HB.out)) GEg13_HB.out); have n1_ := Aside0.mk (hput.below (by repeat (first | (with_reducible first | exact CHOt.out | apply below_alloc | apply pw_below_drewN | apply below_drew1) | exact CHOt.out)) GEg13_CHOt.out); have n2_ := Aside0.mk (hput.blk (by (with_reducible repeat (first | refine blk_drewN ?_ _ | refine blk_drew ?_ | refine blk_alloc ?_ _)); exact BKg1.out) NEg1_g13.out); have n3_ := Aside0.mk (hput.blk (by (with_reducible repeat (first | refine blk_drewN ?_ _ | refine blk_drew ?_ | refine blk_alloc ?_ _)); exact BKg5.out) NEg5_g13.out); have n4_ := Aside0.mk (hblk); clear HB CHOt BKg1 BKg5 BKg13; have HB := n0_; have CHOt := n1_; have BKg1 := n2_; have BKg5 := n3_; have BKg13 := n4_; clear n0_ n1_ n2_ n3_ n4_; clear hblk hput; obtain ⟨z3_0, z3_1, z3_2, z3_3, z3_4, z3_5, z3_6, z3_7, z3_8, z3_9, z3_10, z3_11, z3_12, z3_13, z3_14, z3_15⟩ := cells_G BKg1.out; have f3_ := blk_frozen BKg1.out; obtain ⟨z4_0, z4_1, z4_2, z4_3, z4_4, z4_5, z4_6, z4_7, z4_8, z4_9, z4_10, z4_11, z4_12, z4_13, z4_14, z4_15⟩ := cells_G BKg5.out; have f4_ := blk_frozen BKg5.out; obtain ⟨z5_0, z5_1, z5_2, z5_3, z5_4, z5_5⟩ := cells_P BKg13.out; have f5_ := blk_frozen BKg13.out; rw [← hqk.out] at z5_5; obtain ⟨_, he_, i0, i1, i2, i3, i4, i5⟩ := at_P HR.out HB.out x (of_decide_eq_true p0b) c4k.out; dsimp only at he_; cases he_; rw [← hrk.out] at i5))
                go_roundg k1
                case measure => omega
                case rel => exact ⟨o + 1, l, x + 1, ⟨ta, tn, tc⟩, by first | rfl | (simp [*]; done), by first | rfl | (simp [*]; done), by first | rfl | (simp; done), by first | rfl | (simp [*]; done), ⟨by have := HI.out; have := c4k.out; refine ⟨by omega, by omega, by omega⟩⟩, ⟨by rw [phE_yes HI.out.1 (by have l_ : pn = ps.length := HR.out.len; have c_ := c4k.out; omega) (show gone us (rd_T52 ps x) = true by rw [ph_out (us := us) (p := (rd_T52 ps x)) (by rw [← rd_ph HI.out.1 (by have l_ : pn = ps.length := HR.out.len; have c_ := c4k.out; omega), ← hqk.out]), ← hrk.out]; rfl), List.length_append, HOo.out]; simp⟩, ⟨by rw [left_next HI.out.1 (by have l_ : pn = ps.length := HR.out.len; have l2_ := ph_len us ps; have c_ := c4k.out; omega), ← hqk.out]; exact HL.out⟩, ⟨by rw [teams_next HI.out.1 (by have l_ : pn = ps.length := HR.out.len; have l2_ := ph_len us ps; have c_ := c4k.out; omega), addT_out hqk.out.symm]; exact Kd.R_below HOt.out (by repeat (first | (with_reducible first | exact CHOt.out | apply below_alloc | apply pw_below_drewN | apply below_drew1) | exact CHOt.out))⟩, ⟨by (with_reducible repeat (first | refine blk_drewN ?_ _ | refine blk_drew ?_ | refine blk_alloc ?_ _)); exact BKg1.out⟩, ⟨by (with_reducible repeat (first | refine blk_drewN ?_ _ | refine blk_drew ?_ | refine blk_alloc ?_ _)); exact BKg5.out⟩, ⟨(by repeat (first | (with_reducible first | exact HB.out | apply below_alloc | apply pw_below_drewN | apply below_drew1) | exact HB.out))⟩⟩
            | false =>
              have hin := Aside0.mk (ph_in (us := us) (p := (rd_T52 ps x)) (by rw [← rd_ph HI.out.1 (by have l_ : pn = ps.length := HR.out.len; have c_ := c4k.out; omega), ← hqk.out]))
              obtain rfl : r = false := hrk.out.trans hin.out.2.1
              obtain ⟨z1_0, z1_1, z1_2, z1_3, z1_4, z1_5, z1_6, z1_7, z1_8, z1_9, z1_10, z1_11, z1_12, z1_13, z1_14, z1_15⟩ := cells_G BKg1.out
              have f1_ := blk_frozen BKg1.out
              obtain ⟨z2_0, z2_1, z2_2, z2_3, z2_4, z2_5, z2_6, z2_7, z2_8, z2_9, z2_10, z2_11, z2_12, z2_13, z2_14, z2_15⟩ := cells_G BKg5.out
              have f2_ := blk_frozen BKg5.out
              obtain ⟨_, he_, h0, h1, h2, h3, h4, h5⟩ := at_P HP1.out HB.out x (of_decide_eq_true p0b) c4k.out
              dsimp only at he_
              cases he_
              obtain ⟨_, he_, i0, i1, i2, i3, i4, i5⟩ := at_P HR.out HB.out x (of_decide_eq_true p0b) c4k.out
              dsimp only at he_
              cases he_
              rw [← hrk.out] at i5
              go_wp2_with (first | ((with_reducible refine gate_dst (N := 13) rfl ?_); refine box_event ?hg (N := 13) ?hd (cs := (pl z52)) (t := 52) ?hr ?_; (case hd => rfl); (case hg => rfl); (case hr => first | (go_simp; done) | (go_simp; rfl)); intro g13 hg wb1_ hbox hb; have GEg13_HB := Aside0.mk (by rw [hg]; exact (below_size (by repeat (first | (with_reducible first | exact HB.out | apply below_alloc | apply pw_below_drewN | apply below_drew1) | exact HB.out))) : w.heap.size ≤ g13); have GEg13_CHOt := Aside0.mk (by rw [hg]; exact (below_size (by repeat (first | (with_reducible first | exact CHOt.out | apply below_alloc | apply pw_below_drewN | apply below_drew1) | exact CHOt.out))) : wr.heap.size ≤ g13); have NEg1_g13 := Aside0.mk (by rw [hg]; exact Nat.ne_of_lt (blk_lt (by (with_reducible repeat (first | refine blk_drewN ?_ _ | refine blk_drew ?_ | refine blk_alloc ?_ _)); exact BKg1.out)) : g1 ≠ g13); have NEg5_g13 := Aside0.mk (by rw [hg]; exact Nat.ne_of_lt (blk_lt (by (with_reducible repeat (first | refine blk_drewN ?_ _ | refine blk_drew ?_ | refine blk_alloc ?_ _)); exact BKg5.out)) : g5 ≠ g13); have n0_ := Aside0.mk (below_step (by repeat (first | (with_reducible first | exact HB.out | apply below_alloc | apply pw_below_drewN | apply below_drew1) | exact HB.out)) hb); have n1_ := Aside0.mk (below_step (by repeat (first | (with_reducible first | exact CHOt.out | apply below_alloc | apply pw_below_drewN | apply below_drew1) | exact CHOt.out)) hb); have n2_ := Aside0.mk (blk_below (g := g1) (o := .cells (gm b win ⟨some ad, pn, pc⟩ ⟨ua, un, uc⟩) 37 (0, 0)) (by (with_reducible repeat (first | refine blk_drewN ?_ _ | refine blk_drew ?_ | refine blk_alloc ?_ _)); exact BKg1.out) hb); have n3_ := Aside0.mk (blk_below (g := g5) (o := .cells (gm b m ⟨some ad1, pn, p1c⟩ ⟨ua, un, uc⟩) 37 (0, 0)) (by (with_reducible repeat (first | refine blk_drewN ?_ _ | refine blk_drew ?_ | refine blk_alloc ?_ _)); exact BKg5.out) hb); clear HB CHOt BKg1 BKg5; have HB := n0_; have CHOt := n1_; have BKg1 := n2_; have BKg5 := n3_; clear n0_ n1_ n2_ n3_; have BKg13 := Aside0.mk hbox; clear hb hbox hg) | ((with_reducible refine gate_store (t := 52) (p := 13) rfl ?_); refine store_P_event (q := (rd_T52 (phP us ps) x)) rfl _ _ rfl rfl rfl rfl (by (with_reducible repeat (first | refine blk_drewN ?_ _ | refine blk_drew ?_ | refine blk_alloc ?_ _)); exact BKg13.out) ?_; intro wt2_ hblk hput; have n0_ := Aside0.mk (hput.below (by repeat (first | (with_reducible first | exact HB.out | apply below_alloc | apply pw_below_drewN | apply below_drew1) | exact HB.out)) GEg13_HB.out); have n1_ := Aside0.mk (hput.below (by repeat (first | (with_reducible first | exact CHOt.out | apply below_alloc | apply pw_below_drewN | apply below_drew1) | exact CHOt.out)) GEg13_CHOt.out); have n2_ := Aside0.mk (hput.blk (by (with_reducible repeat (first | refine blk_drewN ?_ _ | refine blk_drew ?_ | refine blk_alloc ?_ _)); exact BKg1.out) NEg1_g13.out); have n3_ := Aside0.mk (hput.blk (by (with_reducible repeat (first | refine blk_drewN ?_ _ | refine blk_drew ?_ | refine blk_alloc ?_ _)); exact BKg5.out) NEg5_g13.out); have n4_ := Aside0.mk (hblk); clear HB CHOt BKg1 BKg5 BKg13; have HB := n0_; have CHOt := n1_; have BKg1 := n2_; have BKg5 := n3_; have BKg13 := n4_; clear n0_ n1_ n2_ n3_ n4_; clear hblk hput; obtain ⟨z3_0, z3_1, z3_2, z3_3, z3_4, z3_5, z3_6, z3_7, z3_8, z3_9, z3_10, z3_11, z3_12, z3_13, z3_14, z3_15⟩ := cells_G BKg1.out; have f3_ := blk_frozen BKg1.out; obtain ⟨z4_0, z4_1, z4_2, z4_3, z4_4, z4_5, z4_6, z4_7, z4_8, z4_9, z4_10, z4_11, z4_12, z4_13, z4_14, z4_15⟩ := cells_G BKg5.out; have f4_ := blk_frozen BKg5.out; obtain ⟨z5_0, z5_1, z5_2, z5_3, z5_4, z5_5⟩ := cells_P BKg13.out; have f5_ := blk_frozen BKg13.out; rw [← hqk.out] at z5_5; obtain ⟨_, he_, i0, i1, i2, i3, i4, i5⟩ := at_P HR.out HB.out x (of_decide_eq_true p0b) c4k.out; dsimp only at he_; cases he_; rw [← hrk.out] at i5) | ((with_reducible refine gate_dst (N := 113) rfl ?_); refine load_G_event rfl _ rfl rfl (by (with_reducible repeat (first | refine blk_drewN ?_ _ | refine blk_drew ?_ | refine blk_alloc ?_ _)); exact BKg5.out) ?_) | (go_at_call 8; (with_reducible refine (alive_calls b m ⟨some ad1, pn, p1c⟩ ⟨ua, un, uc⟩ (phP us ps) us (rd_T52 (phP us ps) x).f0 _ (by repeat (first | exact HP1.out.below HB.out | refine Rw.alloc ?_ _ | refine Rw.drewN ?_ _ | refine Rw.drew ?_)) (by repeat (first | exact HU.out.below HB.out | refine Rw.alloc ?_ _ | refine Rw.drewN ?_ _ | refine Rw.drew ?_)) HN.out.1 HN.out.2).mono ?_); rintro e wc6_ ⟨rfl, hb⟩; have n0_ := Aside0.mk (below_step (by repeat (first | (with_reducible first | exact HB.out | apply below_alloc | apply pw_below_drewN | apply below_drew1) | exact HB.out)) hb); have n1_ := Aside0.mk (below_step (by repeat (first | (with_reducible first | exact CHOt.out | apply below_alloc | apply pw_below_drewN | apply below_drew1) | exact CHOt.out)) hb); have n2_ := Aside0.mk (blk_below (g := g1) (o := .cells (gm b win ⟨some ad, pn, pc⟩ ⟨ua, un, uc⟩) 37 (0, 0)) (by (with_reducible repeat (first | refine blk_drewN ?_ _ | refine blk_drew ?_ | refine blk_alloc ?_ _)); exact BKg1.out) hb); have n3_ := Aside0.mk (blk_below (g := g5) (o := .cells (gm b m ⟨some ad1, pn, p1c⟩ ⟨ua, un, uc⟩) 37 (0, 0)) (by (with_reducible repeat (first | refine blk_drewN ?_ _ | refine blk_drew ?_ | refine blk_alloc ?_ _)); exact BKg5.out) hb); have n4_ := Aside0.mk (blk_below (g := g13) (o := .cells (pl (rd_T52 (phP us ps) x)) 52 (0, 0)) (by (with_reducible repeat (first | refine blk_drewN ?_ _ | refine blk_drew ?_ | refine blk_alloc ?_ _)); exact BKg13.out) hb); clear HB CHOt BKg1 BKg5 BKg13; have HB := n0_; have CHOt := n1_; have BKg1 := n2_; have BKg5 := n3_; have BKg13 := n4_; clear n0_ n1_ n2_ n3_ n4_; (try clear hb); rw [ph_alive HI.out.1 (by have l_ : pn = ps.length := HR.out.len; have c_ := c4k.out; omega) hUq.out hqk.out.symm]; obtain ⟨_, he_, i0, i1, i2, i3, i4, i5⟩ := at_P HR.out HB.out x (of_decide_eq_true p0b) c4k.out; dsimp only at he_; cases he_; rw [← hrk.out] at i5; obtain ⟨z7_0, z7_1, z7_2, z7_3, z7_4, z7_5, z7_6, z7_7, z7_8, z7_9, z7_10, z7_11, z7_12, z7_13, z7_14, z7_15⟩ := cells_G BKg1.out; have f7_ := blk_frozen BKg1.out; obtain ⟨z8_0, z8_1, z8_2, z8_3, z8_4, z8_5, z8_6, z8_7, z8_8, z8_9, z8_10, z8_11, z8_12, z8_13, z8_14, z8_15⟩ := cells_G BKg5.out; have f8_ := blk_frozen BKg5.out; obtain ⟨z9_0, z9_1, z9_2, z9_3, z9_4, z9_5⟩ := cells_P BKg13.out; have f9_ := blk_frozen BKg13.out))
              have n0_ := Aside0.mk (blk_drew BKg1.out)
              clear BKg1
              have BKg1 := n0_
              clear n0_
              have n0_ := Aside0.mk (blk_drew BKg5.out)
              clear BKg5
              have BKg5 := n0_
              clear n0_
              have n0_ := Aside0.mk (blk_drew BKg13.out)
              clear BKg13
              have BKg13 := n0_
              clear n0_
              have n0_ := Aside0.mk (below_drew1 (by repeat (first | (with_reducible first | exact HB.out | apply below_alloc | apply pw_below_drewN | apply below_drew1) | exact HB.out)))
              clear HB
              have HB := n0_
              clear n0_
              have n0_ := Aside0.mk (below_drew1 (by repeat (first | (with_reducible first | exact CHOt.out | apply below_alloc | apply pw_below_drewN | apply below_drew1) | exact CHOt.out)))
              clear CHOt
              have CHOt := n0_
              clear n0_
              rcases Nat.eq_zero_or_pos tn with ht0 | ht0
              · have hte := Aside0.mk (List.eq_nil_of_length_eq_zero (htn.out.symm.trans ht0))
                subst ht0
                refine start_ (n := 14) (S := (fun w' => w'.cell? ⟨g13, 1, none⟩ = some (.int .i64 (rd_T52 (phP us ps) x).f1))) (ds := []) #[false, false, false, false, false, false, false, false, false, false, false, false, false, false] (by kernel_rfl) rfl rfl ((blk_cell BKg13.out 1).trans rfl) (fun hHeld => ?_)
                refine pure_ (i := 0) (N := some 126) (v := ?_) (a' := ?_) #[true, false, false, false, false, false, false, false, false, false, false, false, false, false] rfl rfl (by kernel_rfl) (fun _ _ _ h => h) (Or.inl ⟨by rfl, ?_⟩) ?_ ?_
                rotate_left
                · intro w'
                  go_simp
                  with_reducible rfl
                rotate_left
                · simp only [Act.put, List.setIfInBounds_toArray, List.set_cons_zero, List.set_cons_succ, i64_w, i32_w]
                  rfl
                refine pure_ (i := 1) (N := some 127) (v := ?_) (a' := ?_) #[true, true, false, false, false, false, false, false, false, false, false, false, false, false] rfl rfl (by kernel_rfl) (fun _ _ _ h => h) (Or.inl ⟨by rfl, ?_⟩) ?_ ?_
                rotate_left
                · intro w'
                  go_simp
                  with_reducible rfl
                rotate_left
                · simp only [Act.put, List.setIfInBounds_toArray, List.set_cons_zero, List.set_cons_succ, i64_w, i32_w]
                  rfl
                refine pure_ (i := 2) (N := some 128) (v := ?_) (a' := ?_) #[true, true, true, false, false, false, false, false, false, false, false, false, false, false] rfl rfl (by kernel_rfl) (fun _ _ _ h => h) (Or.inl ⟨by rfl, ?_⟩) ?_ ?_
                rotate_left
                · intro w'
                  go_simp
                  with_reducible rfl
                rotate_left
                · simp only [Act.put, List.setIfInBounds_toArray, List.set_cons_zero, List.set_cons_succ, i64_w, i32_w]
                  rfl
                refine pure_ (i := 3) (N := some 129) (v := ?_) (a' := ?_) #[true, true, true, true, false, false, false, false, false, false, false, false, false, false] rfl rfl (by kernel_rfl) (fun _ _ _ h => h) (Or.inl ⟨by rfl, ?_⟩) ?_ ?_
                rotate_left
                · intro w'
                  go_simp
                  with_reducible rfl
                rotate_left
                · simp only [Act.put, List.setIfInBounds_toArray, List.set_cons_zero, List.set_cons_succ, i64_w, i32_w]
                  rfl
                refine pure_ (i := 4) (N := some 130) (v := undef) (a' := ?_) #[true, true, true, true, true, false, false, false, false, false, false, false, false, false] rfl rfl (by kernel_rfl) (fun _ _ _ h => h) (Or.inr ⟨by rfl, rfl⟩) ?_ ?_
                rotate_left
                · simp only [Act.put, List.setIfInBounds_toArray, List.set_cons_zero, List.set_cons_succ, i64_w, i32_w]
                  rfl
                refine pure_ (i := 5) (N := some 131) (v := undef) (a' := ?_) #[true, true, true, true, true, true, false, false, false, false, false, false, false, false] rfl rfl (by kernel_rfl) (fun _ _ _ h => h) (Or.inr ⟨by rfl, rfl⟩) ?_ ?_
                rotate_left
                · simp only [Act.put, List.setIfInBounds_toArray, List.set_cons_zero, List.set_cons_succ, i64_w, i32_w]
                  rfl
                refine pure_ (i := 6) (N := some 132) (v := undef) (a' := ?_) #[true, true, true, true, true, true, true, false, false, false, false, false, false, false] rfl rfl (by kernel_rfl) (fun _ _ _ h => h) (Or.inr ⟨by rfl, rfl⟩) ?_ ?_
                rotate_left
                · simp only [Act.put, List.setIfInBounds_toArray, List.set_cons_zero, List.set_cons_succ, i64_w, i32_w]
                  rfl
                refine pure_ (i := 7) (N := some 133) (v := undef) (a' := ?_) #[true, true, true, true, true, true, true, true, false, false, false, false, false, false] rfl rfl (by kernel_rfl) (fun _ _ _ h => h) (Or.inr ⟨by rfl, rfl⟩) ?_ ?_
                rotate_left
                · simp only [Act.put, List.setIfInBounds_toArray, List.set_cons_zero, List.set_cons_succ, i64_w, i32_w]
                  rfl
                refine pure_ (i := 8) (N := some 134) (v := undef) (a' := ?_) #[true, true, true, true, true, true, true, true, true, false, false, false, false, false] rfl rfl (by kernel_rfl) (fun _ _ _ h => h) (Or.inr ⟨by rfl, rfl⟩) ?_ ?_
                rotate_left
                · simp only [Act.put, List.setIfInBounds_toArray, List.set_cons_zero, List.set_cons_succ, i64_w, i32_w]
                  rfl
                refine pure_ (i := 9) (N := some 135) (v := undef) (a' := ?_) #[true, true, true, true, true, true, true, true, true, true, false, false, false, false] rfl rfl (by kernel_rfl) (fun _ _ _ h => h) (Or.inr ⟨by rfl, rfl⟩) ?_ ?_
                rotate_left
                · simp only [Act.put, List.setIfInBounds_toArray, List.set_cons_zero, List.set_cons_succ, i64_w, i32_w]
                  rfl
                refine pure_ (i := 10) (N := some 136) (v := undef) (a' := ?_) #[true, true, true, true, true, true, true, true, true, true, true, false, false, false] rfl rfl (by kernel_rfl) (fun _ _ _ h => h) (Or.inr ⟨by rfl, rfl⟩) ?_ ?_
                rotate_left
                · simp only [Act.put, List.setIfInBounds_toArray, List.set_cons_zero, List.set_cons_succ, i64_w, i32_w]
                  rfl
                refine pure_ (i := 11) (N := some 137) (v := undef) (a' := ?_) #[true, true, true, true, true, true, true, true, true, true, true, true, false, false] rfl rfl (by kernel_rfl) (fun _ _ _ h => h) (Or.inr ⟨by rfl, rfl⟩) ?_ ?_
                rotate_left
                · simp only [Act.put, List.setIfInBounds_toArray, List.set_cons_zero, List.set_cons_succ, i64_w, i32_w]
                  rfl
                refine pure_ (i := 12) (N := some 138) (v := undef) (a' := ?_) #[true, true, true, true, true, true, true, true, true, true, true, true, true, false] rfl rfl (by kernel_rfl) (fun _ _ _ h => h) (Or.inr ⟨by rfl, rfl⟩) ?_ ?_
                rotate_left
                · simp only [Act.put, List.setIfInBounds_toArray, List.set_cons_zero, List.set_cons_succ, i64_w, i32_w]
                  rfl
                refine pure_ (i := 13) (N := some 139) (v := ?_) (a' := ?_) #[true, true, true, true, true, true, true, true, true, true, true, true, true, true] rfl rfl (by kernel_rfl) (fun _ _ _ h => h) (Or.inl ⟨by rfl, ?_⟩) ?_ ?_
                rotate_left
                · intro w'
                  go_simp
                  with_reducible rfl
                rotate_left
                · simp only [Act.put, List.setIfInBounds_toArray, List.set_cons_zero, List.set_cons_succ, i64_w, i32_w]
                  rfl
                refine done_ (by kernel_rfl) ?_
                generalize hwd_ : World.drew wc6_ = wd at *
                obtain ⟨z1_0, z1_1, z1_2, z1_3, z1_4, z1_5, z1_6, z1_7, z1_8, z1_9, z1_10, z1_11, z1_12, z1_13, z1_14, z1_15⟩ := cells_G BKg1.out
                have f1_ := blk_frozen BKg1.out
                obtain ⟨z2_0, z2_1, z2_2, z2_3, z2_4, z2_5, z2_6, z2_7, z2_8, z2_9, z2_10, z2_11, z2_12, z2_13, z2_14, z2_15⟩ := cells_G BKg5.out
                have f2_ := blk_frozen BKg5.out
                obtain ⟨z3_0, z3_1, z3_2, z3_3, z3_4, z3_5⟩ := cells_P BKg13.out
                have f3_ := blk_frozen BKg13.out
                go_wp2_with (first | ((with_reducible refine gate_builtin (b := .append) (xs := #[.tmp 140, .tmp 143]) rfl ?_); at_builtin; refine app3_event (w := w) (R := ⟨ta, 0, tc⟩) (xs := (teamsS ((phP us ps).take x.toNat))) rfl (.tmp 140) (.tmp 143) rfl (rd_T52 (phP us ps) x).f1 rfl (by first | (go_simp; done) | (go_simp; rfl)) (Kd.R_below HOt.out (by repeat (first | (with_reducible first | exact CHOt.out | apply below_alloc | apply pw_below_drewN | apply below_drew1) | exact CHOt.out))) (by repeat (first | (with_reducible first | exact HB.out | apply below_alloc | apply pw_below_drewN | apply below_drew1) | exact HB.out)) (by have h1_ := teams_le ((phP us ps).take x.toNat); have h2_ := (List.take_sublist x.toNat (phP us ps)).length_le; have h3_ := ph_len us ps; have l_ : pn = ps.length := HR.out.len; have l4_ : pn ≤ 100 := HN.out.1; omega) ?_; intro T2 wa1_ hO_ hB_ hg_; have n0_ := Aside0.mk (hB_); have n1_ := Aside0.mk (hO_); have n2_ := Aside0.mk (Below.refl wa1_.heap.size wa1_); have n3_ := Aside0.mk (blk_grown (by (with_reducible repeat (first | refine blk_drewN ?_ _ | refine blk_drew ?_ | refine blk_alloc ?_ _)); exact BKg1.out) hg_ (Kd.R_ne (Kd.R_below HOt.out (by repeat (first | (with_reducible first | exact CHOt.out | apply below_alloc | apply pw_below_drewN | apply below_drew1) | exact CHOt.out))) (by (with_reducible repeat (first | refine blk_drewN ?_ _ | refine blk_drew ?_ | refine blk_alloc ?_ _)); exact BKg1.out) (by decide))); have n4_ := Aside0.mk (blk_grown (by (with_reducible repeat (first | refine blk_drewN ?_ _ | refine blk_drew ?_ | refine blk_alloc ?_ _)); exact BKg5.out) hg_ (Kd.R_ne (Kd.R_below HOt.out (by repeat (first | (with_reducible first | exact CHOt.out | apply below_alloc | apply pw_below_drewN | apply below_drew1) | exact CHOt.out))) (by (with_reducible repeat (first | refine blk_drewN ?_ _ | refine blk_drew ?_ | refine blk_alloc ?_ _)); exact BKg5.out) (by decide))); have n5_ := Aside0.mk (blk_grown (by (with_reducible repeat (first | refine blk_drewN ?_ _ | refine blk_drew ?_ | refine blk_alloc ?_ _)); exact BKg13.out) hg_ (Kd.R_ne (Kd.R_below HOt.out (by repeat (first | (with_reducible first | exact CHOt.out | apply below_alloc | apply pw_below_drewN | apply below_drew1) | exact CHOt.out))) (by (with_reducible repeat (first | refine blk_drewN ?_ _ | refine blk_drew ?_ | refine blk_alloc ?_ _)); exact BKg13.out) (by decide))); clear HB HOt CHOt BKg1 BKg5 BKg13; have HB := n0_; have HOt := n1_; have CHOt := n2_; have BKg1 := n3_; have BKg5 := n4_; have BKg13 := n5_; clear n0_ n1_ n2_ n3_ n4_ n5_; clear hO_ hB_ hg_; obtain ⟨z2_0, z2_1, z2_2, z2_3, z2_4, z2_5, z2_6, z2_7, z2_8, z2_9, z2_10, z2_11, z2_12, z2_13, z2_14, z2_15⟩ := cells_G BKg1.out; have f2_ := blk_frozen BKg1.out; obtain ⟨z3_0, z3_1, z3_2, z3_3, z3_4, z3_5, z3_6, z3_7, z3_8, z3_9, z3_10, z3_11, z3_12, z3_13, z3_14, z3_15⟩ := cells_G BKg5.out; have f3_ := blk_frozen BKg5.out; obtain ⟨z4_0, z4_1, z4_2, z4_3, z4_4, z4_5⟩ := cells_P BKg13.out; have f4_ := blk_frozen BKg13.out))
                go_roundg k1
                case measure => omega
                case rel => exact ⟨o, l + 1, x + 1, T2, by first | rfl | (simp [*]; done), by first | rfl | (simp [*]; done), by first | rfl | (simp; done), by first | rfl | (simp [*]; done), ⟨by have := HI.out; have := c4k.out; refine ⟨by omega, by omega, by omega⟩⟩, ⟨by rw [phE_no HI.out.1 (by have l_ : pn = ps.length := HR.out.len; have c_ := c4k.out; omega) hin.out.1]; exact HOo.out⟩, ⟨by rw [left_next HI.out.1 (by have l_ : pn = ps.length := HR.out.len; have l2_ := ph_len us ps; have c_ := c4k.out; omega), ← hqk.out, HL.out]; rfl⟩, ⟨by rw [teams_next HI.out.1 (by have l_ : pn = ps.length := HR.out.len; have l2_ := ph_len us ps; have c_ := c4k.out; omega), addT_new hqk.out.symm (by rw [hte.out]; simp)]; exact Kd.R_below HOt.out (by repeat (first | (with_reducible first | exact CHOt.out | apply below_alloc | apply pw_below_drewN | apply below_drew1) | exact CHOt.out))⟩, ⟨by (with_reducible repeat (first | refine blk_drewN ?_ _ | refine blk_drew ?_ | refine blk_alloc ?_ _)); exact BKg1.out⟩, ⟨by (with_reducible repeat (first | refine blk_drewN ?_ _ | refine blk_drew ?_ | refine blk_alloc ?_ _)); exact BKg5.out⟩, ⟨(by repeat (first | (with_reducible first | exact HB.out | apply below_alloc | apply pw_below_drewN | apply below_drew1) | exact HB.out))⟩⟩
              · have hne := Aside0.mk (show (teamsS ((phP us ps).take x.toNat)) ≠ [] by intro e_; have h1_ := htn.out; rw [e_] at h1_; simp at h1_; omega)
                have hnn : tn ≤ 100 := by have h1_ := teams_le ((phP us ps).take x.toNat); have h2_ := (List.take_sublist x.toNat (phP us ps)).length_le; have h3_ := ph_len us ps; have l_ : pn = ps.length := HR.out.len; have l4_ : pn ≤ 100 := HN.out.1; have h5_ := htn.out; omega
                obtain ⟨y, hy⟩ : ∃ y, y = (tn : Int) - 1 := ⟨_, rfl⟩
                have hwt : wrap64 ((tn : Int) - 1) = y := by rw [hy]; exact wrap64_of (by omega) (by omega)
                have y0 : 0 ≤ y := by omega
                have y1 : y < (tn : Int) := by omega
                have tz : ((tn : Int) == 0) = false := beq_eq_false_iff_ne.mpr (by omega)
                obtain ⟨adt, hea, hcell⟩ := at_I (Ow.rw_ HOt.out) (by repeat (first | (with_reducible first | exact CHOt.out | apply below_alloc | apply pw_below_drewN | apply below_drew1) | exact CHOt.out)) y y0 y1
                dsimp only at hea
                subst hea
                obtain ⟨lt, hlt⟩ : ∃ lt, lt = (teamsS ((phP us ps).take x.toNat)).getD y.toNat 0 := ⟨_, rfl⟩
                rw [← hlt] at hcell
                have hla := Aside0.mk (show (teamsS ((phP us ps).take x.toNat)).getLast? = some lt by rw [last_I hne.out, hlt, ← htn.out, hy, show ((tn : Int) - 1).toNat = tn - 1 by omega])
                have y0b := decide_eq_true y0
                have y1b := decide_eq_true y1
                replace y0 := eq_true y0
                replace y1 := eq_true y1
                clear hlt hy hnn
                by_cases e : lt = (rd_T52 (phP us ps) x).f1
                · have eb : (lt != (rd_T52 (phP us ps) x).f1) = false := bne_eq_false_iff_eq.mpr e
                  have ek := Aside0.mk e
                  clear e
                  refine start_ (n := 14) (S := (fun w' => w'.cell? (adt.add (y.toNat * 1)) = some (.int .i64 lt) ∧ w'.cell? ⟨g13, 1, none⟩ = some (.int .i64 (rd_T52 (phP us ps) x).f1))) (ds := []) #[false, false, false, false, false, false, false, false, false, false, false, false, false, false] (by kernel_rfl) rfl rfl ⟨hcell, (blk_cell BKg13.out 1).trans rfl⟩ (fun hHeld => ?_)
                  refine pure_ (i := 0) (N := some 126) (v := ?_) (a' := ?_) #[true, false, false, false, false, false, false, false, false, false, false, false, false, false] rfl rfl (by kernel_rfl) (fun _ _ _ h => h) (Or.inl ⟨by rfl, ?_⟩) ?_ ?_
                  rotate_left
                  · intro w'
                    go_simp
                    with_reducible rfl
                  rotate_left
                  · simp only [Act.put, List.setIfInBounds_toArray, List.set_cons_zero, List.set_cons_succ, i64_w, i32_w]
                    rfl
                  refine pure_ (i := 1) (N := some 127) (v := ?_) (a' := ?_) #[true, true, false, false, false, false, false, false, false, false, false, false, false, false] rfl rfl (by kernel_rfl) (fun _ _ _ h => h) (Or.inl ⟨by rfl, ?_⟩) ?_ ?_
                  rotate_left
                  · intro w'
                    go_simp
                    with_reducible rfl
                  rotate_left
                  · simp only [Act.put, List.setIfInBounds_toArray, List.set_cons_zero, List.set_cons_succ, i64_w, i32_w]
                    rfl
                  refine pure_ (i := 2) (N := some 128) (v := ?_) (a' := ?_) #[true, true, true, false, false, false, false, false, false, false, false, false, false, false] rfl rfl (by kernel_rfl) (fun _ _ _ h => h) (Or.inl ⟨by rfl, ?_⟩) ?_ ?_
                  rotate_left
                  · intro w'
                    go_simp
                    try simp only [tz]
                    with_reducible rfl
                  rotate_left
                  · simp only [Act.put, List.setIfInBounds_toArray, List.set_cons_zero, List.set_cons_succ, i64_w, i32_w]
                    rfl
                  refine pure_ (i := 3) (N := some 129) (v := ?_) (a' := ?_) #[true, true, true, true, false, false, false, false, false, false, false, false, false, false] rfl rfl (by kernel_rfl) (fun _ _ _ h => h) (Or.inl ⟨by rfl, ?_⟩) ?_ ?_
                  rotate_left
                  · intro w'
                    go_simp
                    with_reducible rfl
                  rotate_left
                  · simp only [Act.put, List.setIfInBounds_toArray, List.set_cons_zero, List.set_cons_succ, i64_w, i32_w]
                    rfl
                  refine pure_ (i := 4) (N := some 130) (v := ?_) (a' := ?_) #[true, true, true, true, true, false, false, false, false, false, false, false, false, false] rfl rfl (by kernel_rfl) (fun _ _ _ h => h) (Or.inl ⟨by rfl, ?_⟩) ?_ ?_
                  rotate_left
                  · intro w'
                    go_simp
                    with_reducible rfl
                  rotate_left
                  · simp only [Act.put, List.setIfInBounds_toArray, List.set_cons_zero, List.set_cons_succ, i64_w, i32_w]
                    rfl
                  refine pure_ (i := 5) (N := some 131) (v := ?_) (a' := ?_) #[true, true, true, true, true, true, false, false, false, false, false, false, false, false] rfl rfl (by kernel_rfl) (fun _ _ _ h => h) (Or.inl ⟨by rfl, ?_⟩) ?_ ?_
                  rotate_left
                  · intro w'
                    go_simp
                    with_reducible rfl
                  rotate_left
                  · simp only [Act.put, List.setIfInBounds_toArray, List.set_cons_zero, List.set_cons_succ, i64_w, i32_w]
                    rfl
                  refine pure_ (i := 6) (N := some 132) (v := ?_) (a' := ?_) #[true, true, true, true, true, true, true, false, false, false, false, false, false, false] rfl rfl (by kernel_rfl) (fun _ _ _ h => h) (Or.inl ⟨by rfl, ?_⟩) ?_ ?_
                  rotate_left
                  · intro w'
                    go_simp
                    with_reducible rfl
                  rotate_left
                  · simp only [Act.put, List.setIfInBounds_toArray, List.set_cons_zero, List.set_cons_succ, i64_w, i32_w]
                    rfl
                  refine pure_ (i := 7) (N := some 133) (v := ?_) (a' := ?_) #[true, true, true, true, true, true, true, true, false, false, false, false, false, false] rfl rfl (by kernel_rfl) (fun _ _ _ h => h) (Or.inl ⟨by rfl, ?_⟩) ?_ ?_
                  rotate_left
                  · intro w'
                    go_simp
                    try simp only [hwt]
                    with_reducible rfl
                  rotate_left
                  · simp only [Act.put, List.setIfInBounds_toArray, List.set_cons_zero, List.set_cons_succ, i64_w, i32_w]
                    rfl
                  refine pure_ (i := 8) (N := some 134) (v := ?_) (a' := ?_) #[true, true, true, true, true, true, true, true, true, false, false, false, false, false] rfl rfl (by kernel_rfl) (fun _ _ _ h => h) (Or.inl ⟨by rfl, ?_⟩) ?_ ?_
                  rotate_left
                  · intro w'
                    go_simp
                    with_reducible rfl
                  rotate_left
                  · simp only [Act.put, List.setIfInBounds_toArray, List.set_cons_zero, List.set_cons_succ, i64_w, i32_w]
                    rfl
                  refine take_ (i := 9) (N := some 135) (v := ?_) (a' := ?_) #[true, true, true, true, true, true, true, true, true, true, false, false, false, false] rfl rfl (by kernel_rfl) (fun _ _ _ h => h) (Or.inl ⟨by rfl, ?_⟩) hHeld ?_ ?_
                  rotate_left
                  · rintro w' s_
                    obtain ⟨s1_, s2_⟩ := s_
                    try simp only [Nat.mul_one] at s1_
                    go_simp
                    with_reducible rfl
                  rotate_left
                  · simp only [Act.put, List.setIfInBounds_toArray, List.set_cons_zero, List.set_cons_succ, i64_w, i32_w]
                    rfl
                  refine pure_ (i := 10) (N := some 136) (v := ?_) (a' := ?_) #[true, true, true, true, true, true, true, true, true, true, true, false, false, false] rfl rfl (by kernel_rfl) (fun _ _ _ h => h) (Or.inl ⟨by rfl, ?_⟩) ?_ ?_
                  rotate_left
                  · intro w'
                    go_simp
                    with_reducible rfl
                  rotate_left
                  · simp only [Act.put, List.setIfInBounds_toArray, List.set_cons_zero, List.set_cons_succ, i64_w, i32_w]
                    rfl
                  refine take_ (i := 11) (N := some 137) (v := ?_) (a' := ?_) #[true, true, true, true, true, true, true, true, true, true, true, true, false, false] rfl rfl (by kernel_rfl) (fun _ _ _ h => h) (Or.inl ⟨by rfl, ?_⟩) hHeld ?_ ?_
                  rotate_left
                  · rintro w' s_
                    obtain ⟨s1_, s2_⟩ := s_
                    go_simp
                    with_reducible rfl
                  rotate_left
                  · simp only [Act.put, List.setIfInBounds_toArray, List.set_cons_zero, List.set_cons_succ, i64_w, i32_w]
                    rfl
                  refine pure_ (i := 12) (N := some 138) (v := ?_) (a' := ?_) #[true, true, true, true, true, true, true, true, true, true, true, true, true, false] rfl rfl (by kernel_rfl) (fun _ _ _ h => h) (Or.inl ⟨by rfl, ?_⟩) ?_ ?_
                  rotate_left
                  · intro w'
                    go_simp
                    try simp only [eb]
                    with_reducible rfl
                  rotate_left
                  · simp only [Act.put, List.setIfInBounds_toArray, List.set_cons_zero, List.set_cons_succ, i64_w, i32_w]
                    rfl
                  refine pure_ (i := 13) (N := some 139) (v := ?_) (a' := ?_) #[true, true, true, true, true, true, true, true, true, true, true, true, true, true] rfl rfl (by kernel_rfl) (fun _ _ _ h => h) (Or.inl ⟨by rfl, ?_⟩) ?_ ?_
                  rotate_left
                  · intro w'
                    go_simp
                    with_reducible rfl
                  rotate_left
                  · simp only [Act.put, List.setIfInBounds_toArray, List.set_cons_zero, List.set_cons_succ, i64_w, i32_w]
                    rfl
                  refine done_ (by kernel_rfl) ?_
                  generalize hwd_ : World.drew wc6_ = wd at *
                  obtain ⟨z1_0, z1_1, z1_2, z1_3, z1_4, z1_5, z1_6, z1_7, z1_8, z1_9, z1_10, z1_11, z1_12, z1_13, z1_14, z1_15⟩ := cells_G BKg1.out
                  have f1_ := blk_frozen BKg1.out
                  obtain ⟨z2_0, z2_1, z2_2, z2_3, z2_4, z2_5, z2_6, z2_7, z2_8, z2_9, z2_10, z2_11, z2_12, z2_13, z2_14, z2_15⟩ := cells_G BKg5.out
                  have f2_ := blk_frozen BKg5.out
                  obtain ⟨z3_0, z3_1, z3_2, z3_3, z3_4, z3_5⟩ := cells_P BKg13.out
                  have f3_ := blk_frozen BKg13.out
                  go_wp2
                  go_roundg k1
                  case measure => omega
                  case rel => exact ⟨o, l + 1, x + 1, ⟨some adt, tn, tc⟩, by first | rfl | (simp [*]; done), by first | rfl | (simp [*]; done), by first | rfl | (simp; done), by first | rfl | (simp [*]; done), ⟨by have := HI.out; have := c4k.out; refine ⟨by omega, by omega, by omega⟩⟩, ⟨by rw [phE_no HI.out.1 (by have l_ : pn = ps.length := HR.out.len; have c_ := c4k.out; omega) hin.out.1]; exact HOo.out⟩, ⟨by rw [left_next HI.out.1 (by have l_ : pn = ps.length := HR.out.len; have l2_ := ph_len us ps; have c_ := c4k.out; omega), ← hqk.out, HL.out]; rfl⟩, ⟨by rw [teams_next HI.out.1 (by have l_ : pn = ps.length := HR.out.len; have l2_ := ph_len us ps; have c_ := c4k.out; omega), addT_old (by rw [hla.out, ek.out])]; exact Kd.R_below HOt.out (by repeat (first | (with_reducible first | exact CHOt.out | apply below_alloc | apply pw_below_drewN | apply below_drew1) | exact CHOt.out))⟩, ⟨by (with_reducible repeat (first | refine blk_drewN ?_ _ | refine blk_drew ?_ | refine blk_alloc ?_ _)); exact BKg1.out⟩, ⟨by (with_reducible repeat (first | refine blk_drewN ?_ _ | refine blk_drew ?_ | refine blk_alloc ?_ _)); exact BKg5.out⟩, ⟨(by repeat (first | (with_reducible first | exact HB.out | apply below_alloc | apply pw_below_drewN | apply below_drew1) | exact HB.out))⟩⟩
                · have eb : (lt != (rd_T52 (phP us ps) x).f1) = true := bne_iff_ne.mpr e
                  have ek := Aside0.mk e
                  clear e
                  refine start_ (n := 14) (S := (fun w' => w'.cell? (adt.add (y.toNat * 1)) = some (.int .i64 lt) ∧ w'.cell? ⟨g13, 1, none⟩ = some (.int .i64 (rd_T52 (phP us ps) x).f1))) (ds := []) #[false, false, false, false, false, false, false, false, false, false, false, false, false, false] (by kernel_rfl) rfl rfl ⟨hcell, (blk_cell BKg13.out 1).trans rfl⟩ (fun hHeld => ?_)
                  refine pure_ (i := 0) (N := some 126) (v := ?_) (a' := ?_) #[true, false, false, false, false, false, false, false, false, false, false, false, false, false] rfl rfl (by kernel_rfl) (fun _ _ _ h => h) (Or.inl ⟨by rfl, ?_⟩) ?_ ?_
                  rotate_left
                  · intro w'
                    go_simp
                    with_reducible rfl
                  rotate_left
                  · simp only [Act.put, List.setIfInBounds_toArray, List.set_cons_zero, List.set_cons_succ, i64_w, i32_w]
                    rfl
                  refine pure_ (i := 1) (N := some 127) (v := ?_) (a' := ?_) #[true, true, false, false, false, false, false, false, false, false, false, false, false, false] rfl rfl (by kernel_rfl) (fun _ _ _ h => h) (Or.inl ⟨by rfl, ?_⟩) ?_ ?_
                  rotate_left
                  · intro w'
                    go_simp
                    with_reducible rfl
                  rotate_left
                  · simp only [Act.put, List.setIfInBounds_toArray, List.set_cons_zero, List.set_cons_succ, i64_w, i32_w]
                    rfl
                  refine pure_ (i := 2) (N := some 128) (v := ?_) (a' := ?_) #[true, true, true, false, false, false, false, false, false, false, false, false, false, false] rfl rfl (by kernel_rfl) (fun _ _ _ h => h) (Or.inl ⟨by rfl, ?_⟩) ?_ ?_
                  rotate_left
                  · intro w'
                    go_simp
                    try simp only [tz]
                    with_reducible rfl
                  rotate_left
                  · simp only [Act.put, List.setIfInBounds_toArray, List.set_cons_zero, List.set_cons_succ, i64_w, i32_w]
                    rfl
                  refine pure_ (i := 3) (N := some 129) (v := ?_) (a' := ?_) #[true, true, true, true, false, false, false, false, false, false, false, false, false, false] rfl rfl (by kernel_rfl) (fun _ _ _ h => h) (Or.inl ⟨by rfl, ?_⟩) ?_ ?_
                  rotate_left
                  · intro w'
                    go_simp
                    with_reducible rfl
                  rotate_left
                  · simp only [Act.put, List.setIfInBounds_toArray, List.set_cons_zero, List.set_cons_succ, i64_w, i32_w]
                    rfl
                  refine pure_ (i := 4) (N := some 130) (v := ?_) (a' := ?_) #[true, true, true, true, true, false, false, false, false, false, false, false, false, false] rfl rfl (by kernel_rfl) (fun _ _ _ h => h) (Or.inl ⟨by rfl, ?_⟩) ?_ ?_
                  rotate_left
                  · intro w'
                    go_simp
                    with_reducible rfl
                  rotate_left
                  · simp only [Act.put, List.setIfInBounds_toArray, List.set_cons_zero, List.set_cons_succ, i64_w, i32_w]
                    rfl
                  refine pure_ (i := 5) (N := some 131) (v := ?_) (a' := ?_) #[true, true, true, true, true, true, false, false, false, false, false, false, false, false] rfl rfl (by kernel_rfl) (fun _ _ _ h => h) (Or.inl ⟨by rfl, ?_⟩) ?_ ?_
                  rotate_left
                  · intro w'
                    go_simp
                    with_reducible rfl
                  rotate_left
                  · simp only [Act.put, List.setIfInBounds_toArray, List.set_cons_zero, List.set_cons_succ, i64_w, i32_w]
                    rfl
                  refine pure_ (i := 6) (N := some 132) (v := ?_) (a' := ?_) #[true, true, true, true, true, true, true, false, false, false, false, false, false, false] rfl rfl (by kernel_rfl) (fun _ _ _ h => h) (Or.inl ⟨by rfl, ?_⟩) ?_ ?_
                  rotate_left
                  · intro w'
                    go_simp
                    with_reducible rfl
                  rotate_left
                  · simp only [Act.put, List.setIfInBounds_toArray, List.set_cons_zero, List.set_cons_succ, i64_w, i32_w]
                    rfl
                  refine pure_ (i := 7) (N := some 133) (v := ?_) (a' := ?_) #[true, true, true, true, true, true, true, true, false, false, false, false, false, false] rfl rfl (by kernel_rfl) (fun _ _ _ h => h) (Or.inl ⟨by rfl, ?_⟩) ?_ ?_
                  rotate_left
                  · intro w'
                    go_simp
                    try simp only [hwt]
                    with_reducible rfl
                  rotate_left
                  · simp only [Act.put, List.setIfInBounds_toArray, List.set_cons_zero, List.set_cons_succ, i64_w, i32_w]
                    rfl
                  refine pure_ (i := 8) (N := some 134) (v := ?_) (a' := ?_) #[true, true, true, true, true, true, true, true, true, false, false, false, false, false] rfl rfl (by kernel_rfl) (fun _ _ _ h => h) (Or.inl ⟨by rfl, ?_⟩) ?_ ?_
                  rotate_left
                  · intro w'
                    go_simp
                    with_reducible rfl
                  rotate_left
                  · simp only [Act.put, List.setIfInBounds_toArray, List.set_cons_zero, List.set_cons_succ, i64_w, i32_w]
                    rfl
                  refine take_ (i := 9) (N := some 135) (v := ?_) (a' := ?_) #[true, true, true, true, true, true, true, true, true, true, false, false, false, false] rfl rfl (by kernel_rfl) (fun _ _ _ h => h) (Or.inl ⟨by rfl, ?_⟩) hHeld ?_ ?_
                  rotate_left
                  · rintro w' s_
                    obtain ⟨s1_, s2_⟩ := s_
                    try simp only [Nat.mul_one] at s1_
                    go_simp
                    with_reducible rfl
                  rotate_left
                  · simp only [Act.put, List.setIfInBounds_toArray, List.set_cons_zero, List.set_cons_succ, i64_w, i32_w]
                    rfl
                  refine pure_ (i := 10) (N := some 136) (v := ?_) (a' := ?_) #[true, true, true, true, true, true, true, true, true, true, true, false, false, false] rfl rfl (by kernel_rfl) (fun _ _ _ h => h) (Or.inl ⟨by rfl, ?_⟩) ?_ ?_
                  rotate_left
                  · intro w'
                    go_simp
                    with_reducible rfl
                  rotate_left
                  · simp only [Act.put, List.setIfInBounds_toArray, List.set_cons_zero, List.set_cons_succ, i64_w, i32_w]
                    rfl
                  refine take_ (i := 11) (N := some 137) (v := ?_) (a' := ?_) #[true, true, true, true, true, true, true, true, true, true, true, true, false, false] rfl rfl (by kernel_rfl) (fun _ _ _ h => h) (Or.inl ⟨by rfl, ?_⟩) hHeld ?_ ?_
                  rotate_left
                  · rintro w' s_
                    obtain ⟨s1_, s2_⟩ := s_
                    go_simp
                    with_reducible rfl
                  rotate_left
                  · simp only [Act.put, List.setIfInBounds_toArray, List.set_cons_zero, List.set_cons_succ, i64_w, i32_w]
                    rfl
                  refine pure_ (i := 12) (N := some 138) (v := ?_) (a' := ?_) #[true, true, true, true, true, true, true, true, true, true, true, true, true, false] rfl rfl (by kernel_rfl) (fun _ _ _ h => h) (Or.inl ⟨by rfl, ?_⟩) ?_ ?_
                  rotate_left
                  · intro w'
                    go_simp
                    try simp only [eb]
                    with_reducible rfl
                  rotate_left
                  · simp only [Act.put, List.setIfInBounds_toArray, List.set_cons_zero, List.set_cons_succ, i64_w, i32_w]
                    rfl
                  refine pure_ (i := 13) (N := some 139) (v := ?_) (a' := ?_) #[true, true, true, true, true, true, true, true, true, true, true, true, true, true] rfl rfl (by kernel_rfl) (fun _ _ _ h => h) (Or.inl ⟨by rfl, ?_⟩) ?_ ?_
                  rotate_left
                  · intro w'
                    go_simp
                    with_reducible rfl
                  rotate_left
                  · simp only [Act.put, List.setIfInBounds_toArray, List.set_cons_zero, List.set_cons_succ, i64_w, i32_w]
                    rfl
                  refine done_ (by kernel_rfl) ?_
                  generalize hwd_ : World.drew wc6_ = wd at *
                  obtain ⟨z1_0, z1_1, z1_2, z1_3, z1_4, z1_5, z1_6, z1_7, z1_8, z1_9, z1_10, z1_11, z1_12, z1_13, z1_14, z1_15⟩ := cells_G BKg1.out
                  have f1_ := blk_frozen BKg1.out
                  obtain ⟨z2_0, z2_1, z2_2, z2_3, z2_4, z2_5, z2_6, z2_7, z2_8, z2_9, z2_10, z2_11, z2_12, z2_13, z2_14, z2_15⟩ := cells_G BKg5.out
                  have f2_ := blk_frozen BKg5.out
                  obtain ⟨z3_0, z3_1, z3_2, z3_3, z3_4, z3_5⟩ := cells_P BKg13.out
                  have f3_ := blk_frozen BKg13.out
                  go_wp2_with (first | ((with_reducible refine gate_builtin (b := .append) (xs := #[.tmp 140, .tmp 143]) rfl ?_); at_builtin; refine app3_event (w := w) (R := ⟨some adt, tn, tc⟩) (xs := (teamsS ((phP us ps).take x.toNat))) rfl (.tmp 140) (.tmp 143) rfl (rd_T52 (phP us ps) x).f1 rfl (by first | (go_simp; done) | (go_simp; rfl)) (Kd.R_below HOt.out (by repeat (first | (with_reducible first | exact CHOt.out | apply below_alloc | apply pw_below_drewN | apply below_drew1) | exact CHOt.out))) (by repeat (first | (with_reducible first | exact HB.out | apply below_alloc | apply pw_below_drewN | apply below_drew1) | exact HB.out)) (by have h1_ := teams_le ((phP us ps).take x.toNat); have h2_ := (List.take_sublist x.toNat (phP us ps)).length_le; have h3_ := ph_len us ps; have l_ : pn = ps.length := HR.out.len; have l4_ : pn ≤ 100 := HN.out.1; omega) ?_; intro T2 wa1_ hO_ hB_ hg_; have n0_ := Aside0.mk (hB_); have n1_ := Aside0.mk (hO_); have n2_ := Aside0.mk (Below.refl wa1_.heap.size wa1_); have n3_ := Aside0.mk (blk_grown (by (with_reducible repeat (first | refine blk_drewN ?_ _ | refine blk_drew ?_ | refine blk_alloc ?_ _)); exact BKg1.out) hg_ (Kd.R_ne (Kd.R_below HOt.out (by repeat (first | (with_reducible first | exact CHOt.out | apply below_alloc | apply pw_below_drewN | apply below_drew1) | exact CHOt.out))) (by (with_reducible repeat (first | refine blk_drewN ?_ _ | refine blk_drew ?_ | refine blk_alloc ?_ _)); exact BKg1.out) (by decide))); have n4_ := Aside0.mk (blk_grown (by (with_reducible repeat (first | refine blk_drewN ?_ _ | refine blk_drew ?_ | refine blk_alloc ?_ _)); exact BKg5.out) hg_ (Kd.R_ne (Kd.R_below HOt.out (by repeat (first | (with_reducible first | exact CHOt.out | apply below_alloc | apply pw_below_drewN | apply below_drew1) | exact CHOt.out))) (by (with_reducible repeat (first | refine blk_drewN ?_ _ | refine blk_drew ?_ | refine blk_alloc ?_ _)); exact BKg5.out) (by decide))); have n5_ := Aside0.mk (blk_grown (by (with_reducible repeat (first | refine blk_drewN ?_ _ | refine blk_drew ?_ | refine blk_alloc ?_ _)); exact BKg13.out) hg_ (Kd.R_ne (Kd.R_below HOt.out (by repeat (first | (with_reducible first | exact CHOt.out | apply below_alloc | apply pw_below_drewN | apply below_drew1) | exact CHOt.out))) (by (with_reducible repeat (first | refine blk_drewN ?_ _ | refine blk_drew ?_ | refine blk_alloc ?_ _)); exact BKg13.out) (by decide))); clear HB HOt CHOt BKg1 BKg5 BKg13; have HB := n0_; have HOt := n1_; have CHOt := n2_; have BKg1 := n3_; have BKg5 := n4_; have BKg13 := n5_; clear n0_ n1_ n2_ n3_ n4_ n5_; clear hO_ hB_ hg_; obtain ⟨z2_0, z2_1, z2_2, z2_3, z2_4, z2_5, z2_6, z2_7, z2_8, z2_9, z2_10, z2_11, z2_12, z2_13, z2_14, z2_15⟩ := cells_G BKg1.out; have f2_ := blk_frozen BKg1.out; obtain ⟨z3_0, z3_1, z3_2, z3_3, z3_4, z3_5, z3_6, z3_7, z3_8, z3_9, z3_10, z3_11, z3_12, z3_13, z3_14, z3_15⟩ := cells_G BKg5.out; have f3_ := blk_frozen BKg5.out; obtain ⟨z4_0, z4_1, z4_2, z4_3, z4_4, z4_5⟩ := cells_P BKg13.out; have f4_ := blk_frozen BKg13.out))
                  go_roundg k1
                  case measure => omega
                  case rel => exact ⟨o, l + 1, x + 1, T2, by first | rfl | (simp [*]; done), by first | rfl | (simp [*]; done), by first | rfl | (simp; done), by first | rfl | (simp [*]; done), ⟨by have := HI.out; have := c4k.out; refine ⟨by omega, by omega, by omega⟩⟩, ⟨by rw [phE_no HI.out.1 (by have l_ : pn = ps.length := HR.out.len; have c_ := c4k.out; omega) hin.out.1]; exact HOo.out⟩, ⟨by rw [left_next HI.out.1 (by have l_ : pn = ps.length := HR.out.len; have l2_ := ph_len us ps; have c_ := c4k.out; omega), ← hqk.out, HL.out]; rfl⟩, ⟨by rw [teams_next HI.out.1 (by have l_ : pn = ps.length := HR.out.len; have l2_ := ph_len us ps; have c_ := c4k.out; omega), addT_new hqk.out.symm (by rw [hla.out]; intro e_; injection e_ with e_; exact ek.out e_)]; exact Kd.R_below HOt.out (by repeat (first | (with_reducible first | exact CHOt.out | apply below_alloc | apply pw_below_drewN | apply below_drew1) | exact CHOt.out))⟩, ⟨by (with_reducible repeat (first | refine blk_drewN ?_ _ | refine blk_drew ?_ | refine blk_alloc ?_ _)); exact BKg1.out⟩, ⟨by (with_reducible repeat (first | refine blk_drewN ?_ _ | refine blk_drew ?_ | refine blk_alloc ?_ _)); exact BKg5.out⟩, ⟨(by repeat (first | (with_reducible first | exact HB.out | apply below_alloc | apply pw_below_drewN | apply below_drew1) | exact HB.out))⟩⟩
          · have c4b := decide_eq_false c4
            have hft := Aside0.mk (List.take_of_length_le (by have l_ : pn = ps.length := HR.out.len; omega) : ps.take x.toNat = ps)
            have hfh := Aside0.mk (List.take_of_length_le (by have l_ : pn = ps.length := HR.out.len; have l2_ := ph_len us ps; omega) : (phP us ps).take x.toNat = (phP us ps))
            have hoe := HOo.out
            rw [hft.out] at hoe
            have hle := HL.out
            rw [hfh.out] at hle
            have hte := htn.out
            rw [hfh.out] at hte
            have hOt := HOt.out
            rw [hfh.out] at hOt
            have hwi := winner_teams (ps := (phP us ps)) (fun p hp => by
              obtain ⟨q_, hq_, rfl⟩ := List.mem_map.1 hp
              rw [ph1_f1]
              exact hT.out q_ hq_)
            have he1 := HE1.out
            have hmm := hm.out
            by_cases d : win = 0
            · have db : (win != 0) = false := bne_eq_false_iff_eq.mpr d
              rw [d] at he1 hmm
              by_cases d2 : m = 0
              · have d2b : (m == 0) = true := beq_iff_eq.mpr d2
                have hlo : ((e1n : Int) == o) = true := beq_iff_eq.mpr (by rw [he1, phV_zero (hmm.symm.trans d2), hoe])
                have hgt : decide ((1 : Int) < (tn : Int)) = true := decide_eq_true (by have h1_ := hwi.1 (by rw [← phW_zero, ← hmm]; exact d2); omega)
                clear hi hnn hol hll hoe hle hte hwi he1 hmm d2 d hOt
                obtain ⟨z1_0, z1_1, z1_2, z1_3, z1_4, z1_5, z1_6, z1_7, z1_8, z1_9, z1_10, z1_11, z1_12, z1_13, z1_14, z1_15⟩ := cells_G BKg1.out
                have f1_ := blk_frozen BKg1.out
                obtain ⟨z2_0, z2_1, z2_2, z2_3, z2_4, z2_5, z2_6, z2_7, z2_8, z2_9, z2_10, z2_11, z2_12, z2_13, z2_14, z2_15⟩ := cells_G BKg5.out
                have f2_ := blk_frozen BKg5.out
                go_wp2_with (first | (go_at_call 12; (with_reducible refine (awake_calls _).mono ?_); rintro e wc1_ ⟨rfl, hb⟩; have n0_ := Aside0.mk (below_step (by repeat (first | (with_reducible first | exact HB.out | apply below_alloc | apply pw_below_drewN | apply below_drew1) | exact HB.out)) hb); have n1_ := Aside0.mk (blk_below (g := g1) (o := .cells (gm b win ⟨pa, pn, pc⟩ ⟨ua, un, uc⟩) 37 (0, 0)) (by (with_reducible repeat (first | refine blk_drewN ?_ _ | refine blk_drew ?_ | refine blk_alloc ?_ _)); exact BKg1.out) hb); have n2_ := Aside0.mk (blk_below (g := g5) (o := .cells (gm b m ⟨p1a, pn, p1c⟩ ⟨ua, un, uc⟩) 37 (0, 0)) (by (with_reducible repeat (first | refine blk_drewN ?_ _ | refine blk_drew ?_ | refine blk_alloc ?_ _)); exact BKg5.out) hb); clear HB BKg1 BKg5; have HB := n0_; have BKg1 := n1_; have BKg5 := n2_; clear n0_ n1_ n2_; (try clear hb)))
                go_ret
                exact ⟨rfl, (below_step HB0.out (by repeat (first | (with_reducible first | exact HB.out | apply below_alloc | apply pw_below_drewN | apply below_drew1) | exact HB.out)))⟩
              · have d2b : (m == 0) = false := beq_eq_false_iff_ne.mpr d2
                have hlo : ((e1n : Int) == o + 1) = true := beq_iff_eq.mpr (by rw [he1, phV_one (fun e_ => d2 (hmm.trans e_)), hoe]; simp)
                by_cases d3 : m = -1
                · have d3b : (m == -1) = true := beq_iff_eq.mpr d3
                  have hl0 : (l == 0) = true := beq_iff_eq.mpr (by rw [hle, hwi.2.1 (by rw [← phW_zero, ← hmm]; exact d3)]; rfl)
                  clear hi hnn hol hll hoe hle hte hwi he1 hmm d3 d2 d hOt
                  obtain ⟨z1_0, z1_1, z1_2, z1_3, z1_4, z1_5, z1_6, z1_7, z1_8, z1_9, z1_10, z1_11, z1_12, z1_13, z1_14, z1_15⟩ := cells_G BKg1.out
                  have f1_ := blk_frozen BKg1.out
                  obtain ⟨z2_0, z2_1, z2_2, z2_3, z2_4, z2_5, z2_6, z2_7, z2_8, z2_9, z2_10, z2_11, z2_12, z2_13, z2_14, z2_15⟩ := cells_G BKg5.out
                  have f2_ := blk_frozen BKg5.out
                  go_wp2_with (first | (go_at_call 12; (with_reducible refine (awake_calls _).mono ?_); rintro e wc1_ ⟨rfl, hb⟩; have n0_ := Aside0.mk (below_step (by repeat (first | (with_reducible first | exact HB.out | apply below_alloc | apply pw_below_drewN | apply below_drew1) | exact HB.out)) hb); have n1_ := Aside0.mk (blk_below (g := g1) (o := .cells (gm b win ⟨pa, pn, pc⟩ ⟨ua, un, uc⟩) 37 (0, 0)) (by (with_reducible repeat (first | refine blk_drewN ?_ _ | refine blk_drew ?_ | refine blk_alloc ?_ _)); exact BKg1.out) hb); have n2_ := Aside0.mk (blk_below (g := g5) (o := .cells (gm b m ⟨p1a, pn, p1c⟩ ⟨ua, un, uc⟩) 37 (0, 0)) (by (with_reducible repeat (first | refine blk_drewN ?_ _ | refine blk_drew ?_ | refine blk_alloc ?_ _)); exact BKg5.out) hb); clear HB BKg1 BKg5; have HB := n0_; have BKg1 := n1_; have BKg5 := n2_; clear n0_ n1_ n2_; (try clear hb)))
                  go_ret
                  exact ⟨rfl, (below_step HB0.out (by repeat (first | (with_reducible first | exact HB.out | apply below_alloc | apply pw_below_drewN | apply below_drew1) | exact HB.out)))⟩
                · have d3b : (m == -1) = false := beq_eq_false_iff_ne.mpr d3
                  have hts : teamsS (phP us ps) = [m] := by have h1_ := hwi.2.2 (by rw [← phW_zero, ← hmm]; exact d2) (by rw [← phW_zero, ← hmm]; exact d3); rw [← phW_zero, ← hmm] at h1_; exact h1_
                  rw [hts] at hte hOt
                  have ht1 : tn = 1 := hte
                  subst ht1
                  clear HOt htn
                  have HOt := Aside0.mk hOt
                  obtain ⟨adt, hea, -⟩ := at_I (Ow.rw_ HOt.out) (Below.refl _ _) 0 (Int.le_refl 0) (by show (0 : Int) < ((1 : Nat) : Int); decide)
                  dsimp only at hea
                  subst hea
                  clear hi hnn hol hll hoe hle hte hwi he1 hmm hts hOt d3 d2 d
                  obtain ⟨z1_0, z1_1, z1_2, z1_3, z1_4, z1_5, z1_6, z1_7, z1_8, z1_9, z1_10, z1_11, z1_12, z1_13, z1_14, z1_15⟩ := cells_G BKg1.out
                  have f1_ := blk_frozen BKg1.out
                  obtain ⟨z2_0, z2_1, z2_2, z2_3, z2_4, z2_5, z2_6, z2_7, z2_8, z2_9, z2_10, z2_11, z2_12, z2_13, z2_14, z2_15⟩ := cells_G BKg5.out
                  have f2_ := blk_frozen BKg5.out
                  go_wp2
                  have n0_ := Aside0.mk (blk_drew BKg5.out)
                  clear BKg5
                  have BKg5 := n0_
                  clear n0_
                  have n0_ := Aside0.mk (below_drew1 (by repeat (first | (with_reducible first | exact HB.out | apply below_alloc | apply pw_below_drewN | apply below_drew1) | exact HB.out)))
                  clear HB
                  have HB := n0_
                  clear n0_
                  have n0_ := Aside0.mk (below_drew1 (by repeat (first | (with_reducible first | exact CHOt.out | apply below_alloc | apply pw_below_drewN | apply below_drew1) | exact CHOt.out)))
                  clear CHOt
                  have CHOt := n0_
                  clear n0_
                  refine start_ (n := 22) (S := (fun w' => w'.cell? adt = some (.int .i64 m) ∧ w'.cell? ⟨g5, 2, none⟩ = some (.int .i64 m))) (ds := []) #[false, false, false, false, false, false, false, false, false, false, false, false, false, false, false, false, false, false, false, false, false, false] (by kernel_rfl) rfl rfl ⟨cell_I (Ow.rw_ HOt.out) (by repeat (first | (with_reducible first | exact CHOt.out | apply below_alloc | apply pw_below_drewN | apply below_drew1) | exact CHOt.out)), (blk_cell (show _ = some (Obj.cells (gm b m ⟨p1a, pn, p1c⟩ ⟨ua, un, uc⟩) 37 (0, 0)) by (with_reducible repeat (first | refine blk_drewN ?_ _ | refine blk_drew ?_ | refine blk_alloc ?_ _)); exact BKg5.out) 2).trans rfl⟩ (fun hHeld => ?_)
                  refine pure_ (i := 0) (N := some 194) (v := ?_) (a' := ?_) #[true, false, false, false, false, false, false, false, false, false, false, false, false, false, false, false, false, false, false, false, false, false] rfl rfl (by kernel_rfl) (fun _ _ _ h => h) (Or.inl ⟨by rfl, ?_⟩) ?_ ?_
                  rotate_left
                  · intro w'
                    go_simp
                    with_reducible rfl
                  rotate_left
                  · simp only [Act.put, List.setIfInBounds_toArray, List.set_cons_zero, List.set_cons_succ, i64_w, i32_w]
                    rfl
                  refine pure_ (i := 1) (N := some 195) (v := ?_) (a' := ?_) #[true, true, false, false, false, false, false, false, false, false, false, false, false, false, false, false, false, false, false, false, false, false] rfl rfl (by kernel_rfl) (fun _ _ _ h => h) (Or.inl ⟨by rfl, ?_⟩) ?_ ?_
                  rotate_left
                  · intro w'
                    go_simp
                    with_reducible rfl
                  rotate_left
                  · simp only [Act.put, List.setIfInBounds_toArray, List.set_cons_zero, List.set_cons_succ, i64_w, i32_w]
                    rfl
                  refine pure_ (i := 2) (N := some 196) (v := ?_) (a' := ?_) #[true, true, true, false, false, false, false, false, false, false, false, false, false, false, false, false, false, false, false, false, false, false] rfl rfl (by kernel_rfl) (fun _ _ _ h => h) (Or.inl ⟨by rfl, ?_⟩) ?_ ?_
                  rotate_left
                  · intro w'
                    go_simp
                    with_reducible rfl
                  rotate_left
                  · simp only [Act.put, List.setIfInBounds_toArray, List.set_cons_zero, List.set_cons_succ, i64_w, i32_w]
                    rfl
                  refine pure_ (i := 3) (N := some 197) (v := ?_) (a' := ?_) #[true, true, true, true, false, false, false, false, false, false, false, false, false, false, false, false, false, false, false, false, false, false] rfl rfl (by kernel_rfl) (fun _ _ _ h => h) (Or.inl ⟨by rfl, ?_⟩) ?_ ?_
                  rotate_left
                  · intro w'
                    go_simp
                    with_reducible rfl
                  rotate_left
                  · simp only [Act.put, List.setIfInBounds_toArray, List.set_cons_zero, List.set_cons_succ, i64_w, i32_w]
                    rfl
                  refine pure_ (i := 4) (N := some 198) (v := ?_) (a' := ?_) #[true, true, true, true, true, false, false, false, false, false, false, false, false, false, false, false, false, false, false, false, false, false] rfl rfl (by kernel_rfl) (fun _ _ _ h => h) (Or.inl ⟨by rfl, ?_⟩) ?_ ?_
                  rotate_left
                  · intro w'
                    go_simp
                    with_reducible rfl
                  rotate_left
                  · simp only [Act.put, List.setIfInBounds_toArray, List.set_cons_zero, List.set_cons_succ, i64_w, i32_w]
                    rfl
                  refine pure_ (i := 5) (N := some 199) (v := ?_) (a' := ?_) #[true, true, true, true, true, true, false, false, false, false, false, false, false, false, false, false, false, false, false, false, false, false] rfl rfl (by kernel_rfl) (fun _ _ _ h => h) (Or.inl ⟨by rfl, ?_⟩) ?_ ?_
                  rotate_left
                  · intro w'
                    go_simp
                    with_reducible rfl
                  rotate_left
                  · simp only [Act.put, List.setIfInBounds_toArray, List.set_cons_zero, List.set_cons_succ, i64_w, i32_w]
                    rfl
                  refine take_ (i := 6) (N := some 200) (v := ?_) (a' := ?_) #[true, true, true, true, true, true, true, false, false, false, false, false, false, false, false, false, false, false, false, false, false, false] rfl rfl (by kernel_rfl) (fun _ _ _ h => h) (Or.inl ⟨by rfl, ?_⟩) hHeld ?_ ?_
                  rotate_left
                  · rintro w' s_
                    obtain ⟨s1_, s2_⟩ := s_
                    go_simp
                    with_reducible rfl
                  rotate_left
                  · simp only [Act.put, List.setIfInBounds_toArray, List.set_cons_zero, List.set_cons_succ, i64_w, i32_w]
                    rfl
                  refine pure_ (i := 7) (N := some 201) (v := ?_) (a' := ?_) #[true, true, true, true, true, true, true, true, false, false, false, false, false, false, false, false, false, false, false, false, false, false] rfl rfl (by kernel_rfl) (fun _ _ _ h => h) (Or.inl ⟨by rfl, ?_⟩) ?_ ?_
                  rotate_left
                  · intro w'
                    go_simp
                    with_reducible rfl
                  rotate_left
                  · simp only [Act.put, List.setIfInBounds_toArray, List.set_cons_zero, List.set_cons_succ, i64_w, i32_w]
                    rfl
                  refine take_ (i := 8) (N := some 202) (v := ?_) (a' := ?_) #[true, true, true, true, true, true, true, true, true, false, false, false, false, false, false, false, false, false, false, false, false, false] rfl rfl (by kernel_rfl) (fun _ _ _ h => h) (Or.inl ⟨by rfl, ?_⟩) hHeld ?_ ?_
                  rotate_left
                  · rintro w' s_
                    obtain ⟨s1_, s2_⟩ := s_
                    go_simp
                    with_reducible rfl
                  rotate_left
                  · simp only [Act.put, List.setIfInBounds_toArray, List.set_cons_zero, List.set_cons_succ, i64_w, i32_w]
                    rfl
                  refine pure_ (i := 9) (N := some 203) (v := ?_) (a' := ?_) #[true, true, true, true, true, true, true, true, true, true, false, false, false, false, false, false, false, false, false, false, false, false] rfl rfl (by kernel_rfl) (fun _ _ _ h => h) (Or.inl ⟨by rfl, ?_⟩) ?_ ?_
                  rotate_left
                  · intro w'
                    go_simp
                    try simp only [beq_self_eq_true]
                    with_reducible rfl
                  rotate_left
                  · simp only [Act.put, List.setIfInBounds_toArray, List.set_cons_zero, List.set_cons_succ, i64_w, i32_w]
                    rfl
                  refine pure_ (i := 10) (N := some 204) (v := ?_) (a' := ?_) #[true, true, true, true, true, true, true, true, true, true, true, false, false, false, false, false, false, false, false, false, false, false] rfl rfl (by kernel_rfl) (fun _ _ _ h => h) (Or.inl ⟨by rfl, ?_⟩) ?_ ?_
                  rotate_left
                  · intro w'
                    go_simp
                    with_reducible rfl
                  rotate_left
                  · simp only [Act.put, List.setIfInBounds_toArray, List.set_cons_zero, List.set_cons_succ, i64_w, i32_w]
                    rfl
                  refine pure_ (i := 11) (N := some 205) (v := ?_) (a' := ?_) #[true, true, true, true, true, true, true, true, true, true, true, true, false, false, false, false, false, false, false, false, false, false] rfl rfl (by kernel_rfl) (fun _ _ _ h => h) (Or.inl ⟨by rfl, ?_⟩) ?_ ?_
                  rotate_left
                  · intro w'
                    go_simp
                    with_reducible rfl
                  rotate_left
                  · simp only [Act.put, List.setIfInBounds_toArray, List.set_cons_zero, List.set_cons_succ, i64_w, i32_w]
                    rfl
                  refine pure_ (i := 12) (N := some 206) (v := ?_) (a' := ?_) #[true, true, true, true, true, true, true, true, true, true, true, true, true, false, false, false, false, false, false, false, false, false] rfl rfl (by kernel_rfl) (fun _ _ _ h => h) (Or.inl ⟨by rfl, ?_⟩) ?_ ?_
                  rotate_left
                  · intro w'
                    go_simp
                    with_reducible rfl
                  rotate_left
                  · simp only [Act.put, List.setIfInBounds_toArray, List.set_cons_zero, List.set_cons_succ, i64_w, i32_w]
                    rfl
                  refine pure_ (i := 13) (N := some 207) (v := ?_) (a' := ?_) #[true, true, true, true, true, true, true, true, true, true, true, true, true, true, false, false, false, false, false, false, false, false] rfl rfl (by kernel_rfl) (fun _ _ _ h => h) (Or.inl ⟨by rfl, ?_⟩) ?_ ?_
                  rotate_left
                  · intro w'
                    go_simp
                    with_reducible rfl
                  rotate_left
                  · simp only [Act.put, List.setIfInBounds_toArray, List.set_cons_zero, List.set_cons_succ, i64_w, i32_w]
                    rfl
                  refine pure_ (i := 14) (N := some 208) (v := ?_) (a' := ?_) #[true, true, true, true, true, true, true, true, true, true, true, true, true, true, true, false, false, false, false, false, false, false] rfl rfl (by kernel_rfl) (fun _ _ _ h => h) (Or.inl ⟨by rfl, ?_⟩) ?_ ?_
                  rotate_left
                  · intro w'
                    go_simp
                    with_reducible rfl
                  rotate_left
                  · simp only [Act.put, List.setIfInBounds_toArray, List.set_cons_zero, List.set_cons_succ, i64_w, i32_w]
                    rfl
                  refine pure_ (i := 15) (N := some 209) (v := ?_) (a' := ?_) #[true, true, true, true, true, true, true, true, true, true, true, true, true, true, true, true, false, false, false, false, false, false] rfl rfl (by kernel_rfl) (fun _ _ _ h => h) (Or.inl ⟨by rfl, ?_⟩) ?_ ?_
                  rotate_left
                  · intro w'
                    go_simp
                    try simp only [hwo]
                    with_reducible rfl
                  rotate_left
                  · simp only [Act.put, List.setIfInBounds_toArray, List.set_cons_zero, List.set_cons_succ, i64_w, i32_w]
                    rfl
                  refine pure_ (i := 16) (N := some 210) (v := ?_) (a' := ?_) #[true, true, true, true, true, true, true, true, true, true, true, true, true, true, true, true, true, false, false, false, false, false] rfl rfl (by kernel_rfl) (fun _ _ _ h => h) (Or.inl ⟨by rfl, ?_⟩) ?_ ?_
                  rotate_left
                  · intro w'
                    go_simp
                    try simp only [hlo]
                    with_reducible rfl
                  rotate_left
                  · simp only [Act.put, List.setIfInBounds_toArray, List.set_cons_zero, List.set_cons_succ, i64_w, i32_w]
                    rfl
                  refine pure_ (i := 17) (N := some 211) (v := ?_) (a' := ?_) #[true, true, true, true, true, true, true, true, true, true, true, true, true, true, true, true, true, true, false, false, false, false] rfl rfl (by kernel_rfl) (fun _ _ _ h => h) (Or.inl ⟨by rfl, ?_⟩) ?_ ?_
                  rotate_left
                  · intro w'
                    go_simp
                    with_reducible rfl
                  rotate_left
                  · simp only [Act.put, List.setIfInBounds_toArray, List.set_cons_zero, List.set_cons_succ, i64_w, i32_w]
                    rfl
                  refine pure_ (i := 18) (N := some 212) (v := ?_) (a' := ?_) #[true, true, true, true, true, true, true, true, true, true, true, true, true, true, true, true, true, true, true, false, false, false] rfl rfl (by kernel_rfl) (fun _ _ _ h => h) (Or.inl ⟨by rfl, ?_⟩) ?_ ?_
                  rotate_left
                  · intro w'
                    go_simp
                    with_reducible rfl
                  rotate_left
                  · simp only [Act.put, List.setIfInBounds_toArray, List.set_cons_zero, List.set_cons_succ, i64_w, i32_w]
                    rfl
                  refine one_ (i := 19) (N := some 213) #[true, true, true, true, true, true, true, true, true, true, true, true, true, true, true, true, true, true, true, true, false, false] rfl rfl (by kernel_rfl) (by decide) (fun K hK => ?_)
                  refine goes_ Try.func12 (by kernel_rfl) rfl #[] (by rfl) rfl rfl (by (try simp only [List.map_toArray, List.map_cons, List.map_nil]); first | done | rfl | (simp only [List.length_drop, List.length_take]; rfl)) ?_
                  with_reducible refine (awake_calls _).mono ?_
                  rintro e wc19_ ⟨rfl, hb⟩
                  refine ⟨_, rfl, ?_⟩
                  have n0_ := Aside0.mk (below_step (by repeat (first | (with_reducible first | exact HB.out | apply below_alloc | apply pw_below_drewN | apply below_drew1) | exact HB.out)) hb)
                  have n1_ := Aside0.mk (below_step (by repeat (first | (with_reducible first | exact CHOt.out | apply below_alloc | apply pw_below_drewN | apply below_drew1) | exact CHOt.out)) hb)
                  have n2_ := Aside0.mk (blk_below (g := g5) (o := .cells (gm b m ⟨p1a, pn, p1c⟩ ⟨ua, un, uc⟩) 37 (0, 0)) (by (with_reducible repeat (first | refine blk_drewN ?_ _ | refine blk_drew ?_ | refine blk_alloc ?_ _)); exact BKg5.out) hb)
                  clear HB CHOt BKg5
                  have HB := n0_
                  have CHOt := n1_
                  have BKg5 := n2_
                  clear n0_ n1_ n2_
                  (try clear hb)
                  refine hK.out _ _ ⟨cell_I (Ow.rw_ HOt.out) (by repeat (first | (with_reducible first | exact CHOt.out | apply below_alloc | apply pw_below_drewN | apply below_drew1) | exact CHOt.out)), (blk_cell (show _ = some (Obj.cells (gm b m ⟨p1a, pn, p1c⟩ ⟨ua, un, uc⟩) 37 (0, 0)) by (with_reducible repeat (first | refine blk_drewN ?_ _ | refine blk_drew ?_ | refine blk_alloc ?_ _)); exact BKg5.out) 2).trans rfl⟩ (fun hHeld => ?_)
                  clear hK K
                  refine norm_ (a' := ?_) ?_ ?_
                  rotate_left
                  · show Act.put _ (some 213) _ = _
                    simp only [Act.put, List.setIfInBounds_toArray, List.set_cons_zero, List.set_cons_succ, i64_w, i32_w]
                    rfl
                  refine pure_ (i := 20) (N := some 214) (v := ?_) (a' := ?_) #[true, true, true, true, true, true, true, true, true, true, true, true, true, true, true, true, true, true, true, true, true, false] rfl rfl (by kernel_rfl) (fun _ _ _ h => h) (Or.inl ⟨by rfl, ?_⟩) ?_ ?_
                  rotate_left
                  · intro w'
                    go_simp
                    with_reducible rfl
                  rotate_left
                  · simp only [Act.put, List.setIfInBounds_toArray, List.set_cons_zero, List.set_cons_succ, i64_w, i32_w]
                    rfl
                  refine pure_ (i := 21) (N := some 2) (v := ?_) (a' := ?_) #[true, true, true, true, true, true, true, true, true, true, true, true, true, true, true, true, true, true, true, true, true, true] rfl rfl (by kernel_rfl) (fun _ _ _ h => h) (Or.inl ⟨by rfl, ?_⟩) ?_ ?_
                  rotate_left
                  · intro w'
                    go_simp
                    with_reducible rfl
                  rotate_left
                  · simp only [Act.put, List.setIfInBounds_toArray, List.set_cons_zero, List.set_cons_succ, i64_w, i32_w]
                    rfl
                  refine done_ (by kernel_rfl) ?_
                  go_wp2
                  go_ret
                  exact ⟨rfl, (below_step HB0.out (by repeat (first | (with_reducible first | exact HB.out | apply below_alloc | apply pw_below_drewN | apply below_drew1) | exact HB.out)))⟩
            · have db : (win != 0) = true := bne_iff_ne.mpr d
              have hmw : (m == win) = true := beq_iff_eq.mpr (hmm.trans (phE_win d).1)
              have hlo : ((e1n : Int) == o) = true := beq_iff_eq.mpr (by rw [he1, (phE_win d).2, hoe])
              clear hi hnn hol hll hoe hle hte hwi he1 hmm d hOt
              obtain ⟨z1_0, z1_1, z1_2, z1_3, z1_4, z1_5, z1_6, z1_7, z1_8, z1_9, z1_10, z1_11, z1_12, z1_13, z1_14, z1_15⟩ := cells_G BKg1.out
              have f1_ := blk_frozen BKg1.out
              obtain ⟨z2_0, z2_1, z2_2, z2_3, z2_4, z2_5, z2_6, z2_7, z2_8, z2_9, z2_10, z2_11, z2_12, z2_13, z2_14, z2_15⟩ := cells_G BKg5.out
              have f2_ := blk_frozen BKg5.out
              go_wp2_with (first | (go_at_call 12; (with_reducible refine (awake_calls _).mono ?_); rintro e wc1_ ⟨rfl, hb⟩; have n0_ := Aside0.mk (below_step (by repeat (first | (with_reducible first | exact HB.out | apply below_alloc | apply pw_below_drewN | apply below_drew1) | exact HB.out)) hb); have n1_ := Aside0.mk (blk_below (g := g1) (o := .cells (gm b win ⟨pa, pn, pc⟩ ⟨ua, un, uc⟩) 37 (0, 0)) (by (with_reducible repeat (first | refine blk_drewN ?_ _ | refine blk_drew ?_ | refine blk_alloc ?_ _)); exact BKg1.out) hb); have n2_ := Aside0.mk (blk_below (g := g5) (o := .cells (gm b m ⟨p1a, pn, p1c⟩ ⟨ua, un, uc⟩) 37 (0, 0)) (by (with_reducible repeat (first | refine blk_drewN ?_ _ | refine blk_drew ?_ | refine blk_alloc ?_ _)); exact BKg5.out) hb); clear HB BKg1 BKg5; have HB := n0_; have BKg1 := n1_; have BKg5 := n2_; clear n0_ n1_ n2_; (try clear hb)))
              go_ret
              exact ⟨rfl, (below_step HB0.out (by repeat (first | (with_reducible first | exact HB.out | apply below_alloc | apply pw_below_drewN | apply below_drew1) | exact HB.out)))⟩
  · skip
    go_enter Try.func6, Try.ntmps6
    go_wp2_with (first | ((with_reducible refine gate_dst (N := 1) rfl ?_); refine box_event ?hg (N := 1) ?hd (cs := (gm b win ⟨pa, pn, pc⟩ ⟨ua, un, uc⟩)) (t := 37) ?hr ?_; (case hd => rfl); (case hg => rfl); (case hr => first | (go_simp; done) | (go_simp; rfl)); intro g1 hg wb1_ hbox hb; have GEg1_HB := Aside0.mk (by rw [hg]; exact (below_size (by repeat (first | (with_reducible first | exact HB.out | apply below_alloc | apply pw_below_drewN | apply below_drew1) | exact HB.out))) : w.heap.size ≤ g1); have n0_ := Aside0.mk (below_step (by repeat (first | (with_reducible first | exact HB.out | apply below_alloc | apply pw_below_drewN | apply below_drew1) | exact HB.out)) hb); clear HB; have HB := n0_; clear n0_; have BKg1 := Aside0.mk hbox; clear hb hbox hg) | ((with_reducible refine gate_dst (N := 14) rfl ?_); refine load_G_event rfl _ rfl rfl (by (with_reducible repeat (first | refine blk_drewN ?_ _ | refine blk_drew ?_ | refine blk_alloc ?_ _)); exact BKg1.out) ?_) | (go_at_call 7; (with_reducible refine (few_no b win ⟨pa, pn, pc⟩ ⟨ua, un, uc⟩ _ c).mono ?_); rintro e wc2_ ⟨rfl, hb⟩; have n0_ := Aside0.mk (below_step (by repeat (first | (with_reducible first | exact HB.out | apply below_alloc | apply pw_below_drewN | apply below_drew1) | exact HB.out)) hb); have n1_ := Aside0.mk (blk_below (g := g1) (o := .cells (gm b win ⟨pa, pn, pc⟩ ⟨ua, un, uc⟩) 37 (0, 0)) (by (with_reducible repeat (first | refine blk_drewN ?_ _ | refine blk_drew ?_ | refine blk_alloc ?_ _)); exact BKg1.out) hb); clear HB BKg1; have HB := n0_; have BKg1 := n1_; clear n0_ n1_; (try clear hb)) | (go_at_call 12; (with_reducible refine (awake_calls _).mono ?_); rintro e wc3_ ⟨rfl, hb⟩; have n0_ := Aside0.mk (below_step (by repeat (first | (with_reducible first | exact HB.out | apply below_alloc | apply pw_below_drewN | apply below_drew1) | exact HB.out)) hb); have n1_ := Aside0.mk (blk_below (g := g1) (o := .cells (gm b win ⟨pa, pn, pc⟩ ⟨ua, un, uc⟩) 37 (0, 0)) (by (with_reducible repeat (first | refine blk_drewN ?_ _ | refine blk_drew ?_ | refine blk_alloc ?_ _)); exact BKg1.out) hb); clear HB BKg1; have HB := n0_; have BKg1 := n1_; clear n0_ n1_; (try clear hb)))
    go_ret
    exact ⟨rfl, (by repeat (first | (with_reducible first | exact HB.out | apply below_alloc | apply pw_below_drewN | apply below_drew1) | exact HB.out))⟩

end Go.Proofs.Ytolcofjdjbnimaa.V
