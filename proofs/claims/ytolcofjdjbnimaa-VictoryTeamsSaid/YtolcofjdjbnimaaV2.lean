/- Chapter 33: the walks of few, and of the reference's find and owns: what they return, in a game's terms. -/
import Derived.Test.YtolcofjdjbnimaaV1
namespace Go.Proofs.Ytolcofjdjbnimaa.V
open Go.RowKit Go.Proofs.YtolcofjdjbnimaaW.PrintWords Go.Proofs.YtolcofjdjbnimaaW.PrintLast Go.Proofs.YtolcofjdjbnimaaW.PrintMore
attribute [local go_sem] max2_int min2_int max_two min_two max_three min_three max_four min_four   -- for this text's walks alone
set_option linter.unusedVariables false
set_option linter.unusedSimpArgs false

set_option maxHeartbeats 8000000 in
set_option maxRecDepth 100000 in
theorem few_calls (b : B) (win : Int) (P U : RS) (w : World) : Calls Try.prog 7 #[.agg (gm b win P U)] w fun e w' => e = .returned (.bool (decide ((P.n : Int) ≤ 100) && decide ((U.n : Int) ≤ 100))) ∧ Below w.heap.size w w' := by
  have hu37 := Try.underlying37
  obtain ⟨pa, pn, pc⟩ := P
  obtain ⟨ua, un, uc⟩ := U
  have HB := Aside0.mk (Below.refl w.heap.size w)
  by_cases c : (pn : Int) ≤ 100
  · have cb := decide_eq_true c
    have cb' : decide (pn ≤ 100) = true := decide_eq_true (by omega)
    clear c
    go_enter Try.func7, Try.ntmps7
    go_wp2_with (first | ((with_reducible refine gate_dst (N := 1) rfl ?_); refine box_event ?hg (N := 1) ?hd (cs := (gm b win ⟨pa, pn, pc⟩ ⟨ua, un, uc⟩)) (t := 37) ?hr ?_; (case hd => rfl); (case hg => rfl); (case hr => first | (go_simp; done) | (go_simp; rfl)); intro g1 hg wg1_ hbox hb; have GEg1 := Aside0.mk ((by rw [hg]; exact (below_size (by repeat (first | (with_reducible first | exact HB.out | apply below_alloc | apply pw_below_drewN | apply below_drew1) | exact HB.out))) : w.heap.size ≤ g1)); have n0_ := Aside0.mk (below_step (by repeat (first | (with_reducible first | exact HB.out | apply below_alloc | apply pw_below_drewN | apply below_drew1) | exact HB.out)) hb); clear HB; have HB := n0_; clear n0_; have BKg1 := Aside0.mk hbox; clear hb hbox hg; obtain ⟨z1_0, z1_1, z1_2, z1_3, z1_4, z1_5, z1_6, z1_7, z1_8, z1_9, z1_10, z1_11, z1_12, z1_13, z1_14, z1_15⟩ := cells_G BKg1.out; have f1_ := blk_frozen BKg1.out))
    go_ret
    exact ⟨by first | rfl | (simp [*]; done), by exact (by repeat (first | (with_reducible first | exact HB.out | apply below_alloc | apply pw_below_drewN | apply below_drew1) | exact HB.out))⟩
  · have cb := decide_eq_false c
    have cb' : decide (pn ≤ 100) = false := decide_eq_false (by omega)
    clear c
    go_enter Try.func7, Try.ntmps7
    go_wp2_with (first | ((with_reducible refine gate_dst (N := 1) rfl ?_); refine box_event ?hg (N := 1) ?hd (cs := (gm b win ⟨pa, pn, pc⟩ ⟨ua, un, uc⟩)) (t := 37) ?hr ?_; (case hd => rfl); (case hg => rfl); (case hr => first | (go_simp; done) | (go_simp; rfl)); intro g1 hg wg1_ hbox hb; have GEg1 := Aside0.mk ((by rw [hg]; exact (below_size (by repeat (first | (with_reducible first | exact HB.out | apply below_alloc | apply pw_below_drewN | apply below_drew1) | exact HB.out))) : w.heap.size ≤ g1)); have n0_ := Aside0.mk (below_step (by repeat (first | (with_reducible first | exact HB.out | apply below_alloc | apply pw_below_drewN | apply below_drew1) | exact HB.out)) hb); clear HB; have HB := n0_; clear n0_; have BKg1 := Aside0.mk hbox; clear hb hbox hg; obtain ⟨z1_0, z1_1, z1_2, z1_3, z1_4, z1_5, z1_6, z1_7, z1_8, z1_9, z1_10, z1_11, z1_12, z1_13, z1_14, z1_15⟩ := cells_G BKg1.out; have f1_ := blk_frozen BKg1.out))
    go_ret
    exact ⟨by first | rfl | (simp [*]; done), by exact (by repeat (first | (with_reducible first | exact HB.out | apply below_alloc | apply pw_below_drewN | apply below_drew1) | exact HB.out))⟩

/-- The index of the first player with a number, or -1; whether an entity has an owner. -/
def findS (ps : List S52) (a : Int) : Int := match ps.findIdx? (fun p => p.f0 == a) with | some i => i | none => -1
def ownsS (us : List S69) (a : Int) : Bool := us.any (fun u => u.f1 == a)
theorem rd52 (ps : List S52) (i : Nat) (h : i < ps.length) : rd_T52 ps (i : Int) = ps[i] := by simp [rd_T52, List.getD, h]
theorem rd69 (us : List S69) (i : Nat) (h : i < us.length) : rd_T69 us (i : Int) = us[i] := by simp [rd_T69, List.getD, h]
theorem findS_at {ps : List S52} {a x : Int} (h0 : 0 ≤ x) (h1 : x < ps.length) (he : (rd_T52 ps x).f0 = a) (hb : ∀ j : Int, 0 ≤ j → j < x → (rd_T52 ps j).f0 ≠ a) : findS ps a = x := by
  obtain ⟨i, rfl⟩ := Int.eq_ofNat_of_zero_le h0
  have hi : i < ps.length := by omega
  have : ps.findIdx? (fun p => p.f0 == a) = some i := by
    rw [List.findIdx?_eq_some_iff_getElem]
    refine ⟨hi, by rw [← rd52 ps i hi]; simpa using he, fun j hj => ?_⟩
    have := hb (j : Int) (by omega) (by omega)
    rw [rd52 ps j (by omega)] at this
    simpa using this
  simp [findS, this]
theorem findS_none {ps : List S52} {a : Int} (hb : ∀ j : Int, 0 ≤ j → j < ps.length → (rd_T52 ps j).f0 ≠ a) : findS ps a = -1 := by
  have : ps.findIdx? (fun p => p.f0 == a) = none := by
    rw [List.findIdx?_eq_none_iff]
    intro p hp
    obtain ⟨i, hi, rfl⟩ := List.getElem_of_mem hp
    have := hb (i : Int) (by omega) (by omega)
    rw [rd52 ps i hi] at this
    simpa using this
  simp [findS, this]
theorem ownsS_at {us : List S69} {a x : Int} (h0 : 0 ≤ x) (h1 : x < us.length) (he : (rd_T69 us x).f1 = a) : ownsS us a = true := by
  obtain ⟨i, rfl⟩ := Int.eq_ofNat_of_zero_le h0
  have hi : i < us.length := by omega
  rw [rd69 us i hi] at he
  simp only [ownsS, List.any_eq_true]
  exact ⟨us[i], List.getElem_mem hi, by simpa using he⟩
theorem ownsS_none {us : List S69} {a : Int} (hb : ∀ j : Int, 0 ≤ j → j < us.length → (rd_T69 us j).f1 ≠ a) : ownsS us a = false := by
  simp only [ownsS, List.any_eq_false]
  intro u hu
  obtain ⟨i, hi, rfl⟩ := List.getElem_of_mem hu
  have := hb (i : Int) (by omega) (by omega)
  rw [rd69 us i hi] at this
  simpa using this
theorem wrap64_of {x : Int} (h : -9223372036854775808 ≤ x) (h' : x < 9223372036854775808) : wrap64 x = x := IntWalk.wrap64_in x ⟨h, by omega⟩

set_option maxHeartbeats 8000000 in
set_option maxRecDepth 100000 in
theorem rfind_calls (b : B) (win : Int) (P U : RS) (ps : List S52) (a : Int) (w : World) (hR : Rw k52 w P ps) (hn : P.n ≤ 100) : Calls Try.prog 23 #[.agg (gm b win P U), .int .i64 a] w fun e w' => e = .returned (.int .i64 (findS ps a)) ∧ Below w.heap.size w w' := by
  have hu37 := Try.underlying37
  obtain ⟨pa, pn, pc⟩ := P
  obtain ⟨ua, un, uc⟩ := U
  have HR := Aside0.mk hR
  have HN := Aside0.mk hn
  clear hR hn
  have HB := Aside0.mk (Below.refl w.heap.size w)
  go_enter Try.func23, Try.ntmps23
  go_wp2_with (first | ((with_reducible refine gate_dst (N := 2) rfl ?_); refine box_event ?hg (N := 2) ?hd (cs := (gm b win ⟨pa, pn, pc⟩ ⟨ua, un, uc⟩)) (t := 37) ?hr ?_; (case hd => rfl); (case hg => rfl); (case hr => first | (go_simp; done) | (go_simp; rfl)); intro g2 hg wg2_ hbox hb; have GEg2 := Aside0.mk ((by rw [hg]; exact (below_size (by repeat (first | (with_reducible first | exact HB.out | apply below_alloc | apply pw_below_drewN | apply below_drew1) | exact HB.out))) : w.heap.size ≤ g2)); have n0_ := Aside0.mk (below_step (by repeat (first | (with_reducible first | exact HB.out | apply below_alloc | apply pw_below_drewN | apply below_drew1) | exact HB.out)) hb); clear HB; have HB := n0_; clear n0_; have BKg2 := Aside0.mk hbox; clear hb hbox hg))
  go_loopg [5] 200 (fun kq v5 w' => ∃ (x : Int), v5 = .int .i64 x ∧ Aside0 (0 ≤ x ∧ x ≤ pn ∧ (kq : Int) + x ≥ 101) ∧ Aside0 (∀ j : Int, 0 ≤ j → j < x → (rd_T52 ps j).f0 ≠ a) ∧ Aside0 (w'.heap[g2]? = some (.cells (gm b win ⟨pa, pn, pc⟩ ⟨ua, un, uc⟩) 37 (0, 0))) ∧ Aside0 (Below w.heap.size w w'))
  case atStart => exact ⟨0, rfl, ⟨by have := HN.out; omega⟩, ⟨fun j h1 h2 => by omega⟩, ⟨by (with_reducible repeat (first | refine blk_drewN ?_ _ | refine blk_drew ?_ | refine blk_alloc ?_ _)); exact BKg2.out⟩, ⟨(by repeat (first | (with_reducible first | exact HB.out | apply below_alloc | apply pw_below_drewN | apply below_drew1) | exact HB.out))⟩⟩
  case round =>
    clear BKg2 HB
    obtain ⟨x, rfl, HI, HA, BKg2, HB⟩ := hrel
    have hi := HI.out
    have hnn : pn ≤ 100 := HN.out
    cases gk with
    | zero => exfalso; omega
    | succ k1 =>
    by_cases c4 : x < (pn : Int)
    · have c4b := decide_eq_true c4
      have p0 : 0 ≤ x := hi.1
      have p0b := decide_eq_true p0
      have hw : wrap64 (x + 1) = x + 1 := wrap64_of (by omega) (by omega)
      obtain ⟨ad, he, h0, h1, h2, h3, h4, h5⟩ := at_P HR.out HB.out x p0 c4
      dsimp only at he
      subst he
      obtain ⟨z1_0, z1_1, z1_2, z1_3, z1_4, z1_5, z1_6, z1_7, z1_8, z1_9, z1_10, z1_11, z1_12, z1_13, z1_14, z1_15⟩ := cells_G BKg2.out
      have f1_ := blk_frozen BKg2.out
      replace p0 := eq_true p0
      have c4k := Aside0.mk c4
      replace c4 := eq_true c4
      by_cases c6 : (rd_T52 ps x).f0 = a
      · have c6b : ((rd_T52 ps x).f0 == a) = true := beq_iff_eq.mpr c6
        have c6k := Aside0.mk c6
        clear c6 hi hnn
        go_wp2
        go_ret
        exact ⟨by have i_ := HI.out; have c_ := c4k.out; have l_ : pn = ps.length := HR.out.len; rw [findS_at i_.1 (by omega) c6k.out HA.out]; rfl, (by repeat (first | (with_reducible first | exact HB.out | apply below_alloc | apply pw_below_drewN | apply below_drew1) | exact HB.out))⟩
      · have c6b : ((rd_T52 ps x).f0 == a) = false := beq_eq_false_iff_ne.mpr c6
        have c6k := Aside0.mk c6
        clear c6 hi hnn
        go_wp2
        go_roundg k1
        case measure => omega
        case rel => exact ⟨x + 1, by first | rfl | (simp [*]; done), ⟨by have := HI.out; have := c4k.out; refine ⟨by omega, by omega, by omega⟩⟩, ⟨fun j h1 h2 => by
          by_cases e : j = x
          · rw [e]; exact c6k.out
          · exact HA.out j h1 (by omega)⟩, ⟨by (with_reducible repeat (first | refine blk_drewN ?_ _ | refine blk_drew ?_ | refine blk_alloc ?_ _)); exact BKg2.out⟩, ⟨(by repeat (first | (with_reducible first | exact HB.out | apply below_alloc | apply pw_below_drewN | apply below_drew1) | exact HB.out))⟩⟩
    · have c4b := decide_eq_false c4
      have c4k := Aside0.mk c4
      obtain ⟨z1_0, z1_1, z1_2, z1_3, z1_4, z1_5, z1_6, z1_7, z1_8, z1_9, z1_10, z1_11, z1_12, z1_13, z1_14, z1_15⟩ := cells_G BKg2.out
      have f1_ := blk_frozen BKg2.out
      clear c4 hi hnn
      go_wp2
      go_ret
      exact ⟨by have i_ := HI.out; have c_ := c4k.out; have l_ : pn = ps.length := HR.out.len; rw [findS_none (fun j h1 h2 => HA.out j h1 (by omega))]; rfl, (by repeat (first | (with_reducible first | exact HB.out | apply below_alloc | apply pw_below_drewN | apply below_drew1) | exact HB.out))⟩

set_option maxHeartbeats 8000000 in
set_option maxRecDepth 100000 in
theorem rowns_calls (b : B) (win : Int) (P U : RS) (us : List S69) (a : Int) (w : World) (hR : Rw k69 w U us) (hn : U.n ≤ 100) : Calls Try.prog 24 #[.agg (gm b win P U), .int .i64 a] w fun e w' => e = .returned (.bool (ownsS us a)) ∧ Below w.heap.size w w' := by
  have hu37 := Try.underlying37
  obtain ⟨pa, pn, pc⟩ := P
  obtain ⟨ua, un, uc⟩ := U
  have HR := Aside0.mk hR
  have HN := Aside0.mk hn
  clear hR hn
  have HB := Aside0.mk (Below.refl w.heap.size w)
  go_enter Try.func24, Try.ntmps24
  go_wp2_with (first | ((with_reducible refine gate_dst (N := 2) rfl ?_); refine box_event ?hg (N := 2) ?hd (cs := (gm b win ⟨pa, pn, pc⟩ ⟨ua, un, uc⟩)) (t := 37) ?hr ?_; (case hd => rfl); (case hg => rfl); (case hr => first | (go_simp; done) | (go_simp; rfl)); intro g2 hg wg2_ hbox hb; have GEg2 := Aside0.mk ((by rw [hg]; exact (below_size (by repeat (first | (with_reducible first | exact HB.out | apply below_alloc | apply pw_below_drewN | apply below_drew1) | exact HB.out))) : w.heap.size ≤ g2)); have n0_ := Aside0.mk (below_step (by repeat (first | (with_reducible first | exact HB.out | apply below_alloc | apply pw_below_drewN | apply below_drew1) | exact HB.out)) hb); clear HB; have HB := n0_; clear n0_; have BKg2 := Aside0.mk hbox; clear hb hbox hg))
  go_loopg [5] 200 (fun kq v5 w' => ∃ (x : Int), v5 = .int .i64 x ∧ Aside0 (0 ≤ x ∧ x ≤ un ∧ (kq : Int) + x ≥ 101) ∧ Aside0 (∀ j : Int, 0 ≤ j → j < x → (rd_T69 us j).f1 ≠ a) ∧ Aside0 (w'.heap[g2]? = some (.cells (gm b win ⟨pa, pn, pc⟩ ⟨ua, un, uc⟩) 37 (0, 0))) ∧ Aside0 (Below w.heap.size w w'))
  case atStart => exact ⟨0, rfl, ⟨by have := HN.out; omega⟩, ⟨fun j h1 h2 => by omega⟩, ⟨by (with_reducible repeat (first | refine blk_drewN ?_ _ | refine blk_drew ?_ | refine blk_alloc ?_ _)); exact BKg2.out⟩, ⟨(by repeat (first | (with_reducible first | exact HB.out | apply below_alloc | apply pw_below_drewN | apply below_drew1) | exact HB.out))⟩⟩
  case round =>
    clear BKg2 HB
    obtain ⟨x, rfl, HI, HA, BKg2, HB⟩ := hrel
    have hi := HI.out
    have hnn : un ≤ 100 := HN.out
    cases gk with
    | zero => exfalso; omega
    | succ k1 =>
    by_cases c4 : x < (un : Int)
    · have c4b := decide_eq_true c4
      have p0 : 0 ≤ x := hi.1
      have p0b := decide_eq_true p0
      have hw : wrap64 (x + 1) = x + 1 := wrap64_of (by omega) (by omega)
      obtain ⟨ad, he, h0, h1, h2, h3, h4, h5, h6, h7, h8, h9, h10, h11⟩ := at_E HR.out HB.out x p0 c4
      dsimp only at he
      subst he
      obtain ⟨z1_0, z1_1, z1_2, z1_3, z1_4, z1_5, z1_6, z1_7, z1_8, z1_9, z1_10, z1_11, z1_12, z1_13, z1_14, z1_15⟩ := cells_G BKg2.out
      have f1_ := blk_frozen BKg2.out
      replace p0 := eq_true p0
      have c4k := Aside0.mk c4
      replace c4 := eq_true c4
      by_cases c6 : (rd_T69 us x).f1 = a
      · have c6b : ((rd_T69 us x).f1 == a) = true := beq_iff_eq.mpr c6
        have c6k := Aside0.mk c6
        clear c6 hi hnn
        go_wp2
        go_ret
        exact ⟨by have i_ := HI.out; have c_ := c4k.out; have l_ : un = us.length := HR.out.len; rw [ownsS_at i_.1 (by omega) c6k.out]; rfl, (by repeat (first | (with_reducible first | exact HB.out | apply below_alloc | apply pw_below_drewN | apply below_drew1) | exact HB.out))⟩
      · have c6b : ((rd_T69 us x).f1 == a) = false := beq_eq_false_iff_ne.mpr c6
        have c6k := Aside0.mk c6
        clear c6 hi hnn
        go_wp2
        go_roundg k1
        case measure => omega
        case rel => exact ⟨x + 1, by first | rfl | (simp [*]; done), ⟨by have := HI.out; have := c4k.out; refine ⟨by omega, by omega, by omega⟩⟩, ⟨fun j h1 h2 => by
          by_cases e : j = x
          · rw [e]; exact c6k.out
          · exact HA.out j h1 (by omega)⟩, ⟨by (with_reducible repeat (first | refine blk_drewN ?_ _ | refine blk_drew ?_ | refine blk_alloc ?_ _)); exact BKg2.out⟩, ⟨(by repeat (first | (with_reducible first | exact HB.out | apply below_alloc | apply pw_below_drewN | apply below_drew1) | exact HB.out))⟩⟩
    · have c4b := decide_eq_false c4
      have c4k := Aside0.mk c4
      obtain ⟨z1_0, z1_1, z1_2, z1_3, z1_4, z1_5, z1_6, z1_7, z1_8, z1_9, z1_10, z1_11, z1_12, z1_13, z1_14, z1_15⟩ := cells_G BKg2.out
      have f1_ := blk_frozen BKg2.out
      clear c4 hi hnn
      go_wp2
      go_ret
      exact ⟨by have i_ := HI.out; have c_ := c4k.out; have l_ : un = us.length := HR.out.len; rw [ownsS_none (fun j h1 h2 => HA.out j h1 (by omega))]; rfl, (by repeat (first | (with_reducible first | exact HB.out | apply below_alloc | apply pw_below_drewN | apply below_drew1) | exact HB.out))⟩

end Go.Proofs.Ytolcofjdjbnimaa.V
