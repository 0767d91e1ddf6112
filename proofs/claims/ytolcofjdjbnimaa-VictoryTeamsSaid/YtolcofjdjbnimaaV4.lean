/- Chapter 33: the walks of find's condition (all conditions of a row), ContainsFunc, owns, numbered, find. -/
import Derived.Test.YtolcofjdjbnimaaV3
namespace Go.Proofs.Ytolcofjdjbnimaa.V
open Go.RowKit Go.Proofs.YtolcofjdjbnimaaW.PrintWords Go.Proofs.YtolcofjdjbnimaaW.PrintLast Go.Proofs.YtolcofjdjbnimaaW.PrintMore
attribute [local go_sem] max2_int min2_int max_two min_two max_three min_three max_four min_four   -- for this text's walks alone
set_option linter.unusedVariables false
set_option linter.unusedSimpArgs false

/-- A row of conditions. -/
def Cnds (w : World) (ad : Addr) (L : List (S52 → Bool)) : Prop := ∀ j (hj : j < L.length), ∃ v, w.cell? (ad.add j) = some v ∧ Cnd pl w v L[j]
theorem Cnds.below {w w1 : World} {ad : Addr} {L : List (S52 → Bool)} (h : Cnds w ad L) (hb : Below w.heap.size w w1) : Cnds w1 ad L := fun j hj => by
  obtain ⟨v, h1, h2⟩ := h j hj
  exact ⟨v, (hb.cell (World.block_lt_of_cell? w _ h1)).trans h1, h2.below hb⟩

set_option maxHeartbeats 8000000 in
set_option maxRecDepth 100000 in
theorem all_cnd {w : World} (gc : Nat) (ad : Addr) (n c : Nat) (L : List (S52 → Bool)) (hc : w.heap[gc]? = some (.cells #[.slice (some ad) n c] 71 (0, 0))) (hL : Cnds w ad L) (hn : n = L.length) (hn2 : n ≤ 10) : Cnd pl w (.func (.func 31) #[] #[.pointer (some ⟨gc, 0, none⟩)]) (fun x => L.all (fun p => p x)) := by
  refine ⟨31, Try.f31, #[.pointer (some ⟨gc, 0, none⟩)], rfl, Try.func31, by kernel_rfl, by kernel_rfl, fun w1 x hb0 => ?_⟩
  have hu52 := Try.underlying52
  have hu71 := Try.underlying71
  have HB := Aside0.mk (Below.refl w1.heap.size w1)
  have BKc := Aside0.mk (blk_below hc hb0)
  have HL := Aside0.mk (hL.below hb0)
  have HN := Aside0.mk (And.intro hn hn2)
  clear hc hL hn hn2 hb0 w
  show Calls Try.prog 31 #[.agg (pl x), .pointer (some ⟨gc, 0, none⟩)] w1 _
  go_enter Try.func31, Try.ntmps31
  go_wp2_with (first | ((with_reducible refine gate_dst (N := 2) rfl ?_); refine box_event ?hg (N := 2) ?hd (cs := (pl x)) (t := 52) ?hr ?_; (case hd => rfl); (case hg => rfl); (case hr => first | (go_simp; done) | (go_simp; rfl)); intro g2 hg wg2_ hbox hb; have GEg2 := Aside0.mk ((by rw [hg]; exact (below_size (by repeat (first | (with_reducible first | exact HB.out | apply below_alloc | apply pw_below_drewN | apply below_drew1) | exact HB.out))) : w1.heap.size ≤ g2)); have n0_ := Aside0.mk (below_step (by repeat (first | (with_reducible first | exact HB.out | apply below_alloc | apply pw_below_drewN | apply below_drew1) | exact HB.out)) hb); have n1_ := Aside0.mk (blk_below (g := gc) (o := .cells #[.slice (some ad) n c] 71 (0, 0)) (by (with_reducible repeat (first | refine blk_drewN ?_ _ | refine blk_drew ?_ | refine blk_alloc ?_ _)); exact BKc.out) hb); clear HB BKc; have HB := n0_; have BKc := n1_; clear n0_ n1_; have BKg2 := Aside0.mk hbox; clear hb hbox hg; have z1_ := (blk_cell BKc.out 0).trans rfl; have f1_ := blk_frozen BKc.out; obtain ⟨z2_0, z2_1, z2_2, z2_3, z2_4, z2_5⟩ := cells_P BKg2.out; have f2_ := blk_frozen BKg2.out))
  go_loopg [8] 200 (fun kq v8 w' => ∃ (i : Int), v8 = .int .i64 i ∧ Aside0 (0 ≤ i ∧ i ≤ n ∧ (kq : Int) + i ≥ 101) ∧ Aside0 (∀ j (hj : j < L.length), (j : Int) < i → L[j] x = true) ∧ Aside0 (w'.heap[gc]? = some (.cells #[.slice (some ad) n c] 71 (0, 0))) ∧ Aside0 (w'.heap[g2]? = some (.cells (pl x) 52 (0, 0))) ∧ Aside0 (Below w1.heap.size w1 w'))
  case atStart => exact ⟨0, rfl, ⟨by have := HN.out; omega⟩, ⟨fun j h1 h2 => by omega⟩, ⟨by (with_reducible repeat (first | refine blk_drewN ?_ _ | refine blk_drew ?_ | refine blk_alloc ?_ _)); exact BKc.out⟩, ⟨by (with_reducible repeat (first | refine blk_drewN ?_ _ | refine blk_drew ?_ | refine blk_alloc ?_ _)); exact BKg2.out⟩, ⟨(by repeat (first | (with_reducible first | exact HB.out | apply below_alloc | apply pw_below_drewN | apply below_drew1) | exact HB.out))⟩⟩
  case round =>
    clear HB BKc BKg2
    obtain ⟨i, rfl, HI, HA, BKc, BKg2, HB⟩ := hrel
    have hi := HI.out
    have hnn := HN.out
    cases gk with
    | zero => exfalso; omega
    | succ k1 =>
    by_cases c4 : i < (n : Int)
    · have c4b := decide_eq_true c4
      have p0 : 0 ≤ i := hi.1
      have p0b := decide_eq_true p0
      have hw : wrap64 (i + 1) = i + 1 := wrap64_of (by omega) (by omega)
      have hltk : Aside0 (i.toNat < L.length) := ⟨by omega⟩
      obtain ⟨v, hv, hcv⟩ := HL.out i.toNat hltk.out
      replace hcv := Aside0.mk hcv
      replace hv := (HB.out.cell (World.block_lt_of_cell? w1 _ hv)).trans hv
      have z1_ := (blk_cell BKc.out 0).trans rfl
      have f1_ := blk_frozen BKc.out
      obtain ⟨z2_0, z2_1, z2_2, z2_3, z2_4, z2_5⟩ := cells_P BKg2.out
      have f2_ := blk_frozen BKg2.out
      replace p0 := eq_true p0
      have c4k := Aside0.mk c4
      replace c4 := eq_true c4
      obtain ⟨q, hq⟩ : ∃ q, q = (L[i.toNat]'hltk.out) x := ⟨_, rfl⟩
      have hqk := Aside0.mk hq
      clear hq
      cases q with
      | false =>
        have pb := hqk.out.symm
        clear hi hnn
        go_wp2_with (first | ((with_reducible refine gate_dst (N := 14) rfl ?_); refine goesC_ (some 14) rfl rfl rfl rfl hcv.out (by repeat (first | (with_reducible first | exact HB.out | apply below_alloc | apply pw_below_drewN | apply below_drew1) | exact HB.out)) x (by first | rfl | (simp only [List.map_toArray, List.map_cons, List.map_nil]; rfl)) ?_; intro wc_ hb; rw [pb]; have n0_ := Aside0.mk (below_step (by repeat (first | (with_reducible first | exact HB.out | apply below_alloc | apply pw_below_drewN | apply below_drew1) | exact HB.out)) hb); have n1_ := Aside0.mk (blk_below (g := gc) (o := .cells #[.slice (some ad) n c] 71 (0, 0)) (by (with_reducible repeat (first | refine blk_drewN ?_ _ | refine blk_drew ?_ | refine blk_alloc ?_ _)); exact BKc.out) hb); have n2_ := Aside0.mk (blk_below (g := g2) (o := .cells (pl x) 52 (0, 0)) (by (with_reducible repeat (first | refine blk_drewN ?_ _ | refine blk_drew ?_ | refine blk_alloc ?_ _)); exact BKg2.out) hb); clear HB BKc BKg2; have HB := n0_; have BKc := n1_; have BKg2 := n2_; clear n0_ n1_ n2_; clear hb))
        go_ret
        exact ⟨by
          have : L.all (fun p => p x) = false := by
            rw [List.all_eq_false]; exact ⟨L[i.toNat]'hltk.out, List.getElem_mem _, by rw [← hqk.out]; simp⟩
          rw [this]; rfl, (by repeat (first | (with_reducible first | exact HB.out | apply below_alloc | apply pw_below_drewN | apply below_drew1) | exact HB.out))⟩
      | true =>
        have pb := hqk.out.symm
        clear hi hnn
        go_wp2_with (first | ((with_reducible refine gate_dst (N := 14) rfl ?_); refine goesC_ (some 14) rfl rfl rfl rfl hcv.out (by repeat (first | (with_reducible first | exact HB.out | apply below_alloc | apply pw_below_drewN | apply below_drew1) | exact HB.out)) x (by first | rfl | (simp only [List.map_toArray, List.map_cons, List.map_nil]; rfl)) ?_; intro wc_ hb; rw [pb]; have n0_ := Aside0.mk (below_step (by repeat (first | (with_reducible first | exact HB.out | apply below_alloc | apply pw_below_drewN | apply below_drew1) | exact HB.out)) hb); have n1_ := Aside0.mk (blk_below (g := gc) (o := .cells #[.slice (some ad) n c] 71 (0, 0)) (by (with_reducible repeat (first | refine blk_drewN ?_ _ | refine blk_drew ?_ | refine blk_alloc ?_ _)); exact BKc.out) hb); have n2_ := Aside0.mk (blk_below (g := g2) (o := .cells (pl x) 52 (0, 0)) (by (with_reducible repeat (first | refine blk_drewN ?_ _ | refine blk_drew ?_ | refine blk_alloc ?_ _)); exact BKg2.out) hb); clear HB BKc BKg2; have HB := n0_; have BKc := n1_; have BKg2 := n2_; clear n0_ n1_ n2_; clear hb))
        go_roundg k1
        case measure => omega
        case rel => exact ⟨i + 1, by first | rfl | (simp [*]; done), ⟨by have := HI.out; have := c4k.out; refine ⟨by omega, by omega, by omega⟩⟩, ⟨fun j h1 h2 => by
          by_cases e : j = i.toNat
          · subst e; exact hqk.out.symm
          · exact HA.out j h1 (by have := HI.out; omega)⟩, ⟨by (with_reducible repeat (first | refine blk_drewN ?_ _ | refine blk_drew ?_ | refine blk_alloc ?_ _)); exact BKc.out⟩, ⟨by (with_reducible repeat (first | refine blk_drewN ?_ _ | refine blk_drew ?_ | refine blk_alloc ?_ _)); exact BKg2.out⟩, ⟨(by repeat (first | (with_reducible first | exact HB.out | apply below_alloc | apply pw_below_drewN | apply below_drew1) | exact HB.out))⟩⟩
    · have c4b := decide_eq_false c4
      have c4k := Aside0.mk c4
      clear c4 hi hnn
      go_wp2
      go_ret
      exact ⟨by
        have : L.all (fun p => p x) = true := by
          rw [List.all_eq_true]
          intro p hp
          obtain ⟨j, hj, rfl⟩ := List.getElem_of_mem hp
          exact HA.out j hj (by have := c4k.out; have := HN.out; omega)
        rw [this]; rfl, (by repeat (first | (with_reducible first | exact HB.out | apply below_alloc | apply pw_below_drewN | apply below_drew1) | exact HB.out))⟩

set_option maxHeartbeats 8000000 in
set_option maxRecDepth 100000 in
theorem contains_calls (U : RS) (us : List S69) (v : Value) (p : S69 → Bool) (w : World) (hR : Rw k69 w U us) (hn : U.n ≤ 100) (hc : Cnd en w v p) : Calls Try.prog 33 #[.slice U.a U.n U.c, v] w fun e w' => e = .returned (.bool (us.any p)) ∧ Below w.heap.size w w' := by
  obtain ⟨ua, un, uc⟩ := U
  have HR := Aside0.mk hR
  have HN := Aside0.mk hn
  have HC := Aside0.mk hc
  clear hR hn hc
  have HB := Aside0.mk (Below.refl w.heap.size w)
  have e0 : us.any p = decide (0 ≤ fstS p us) := by
    unfold fstS
    cases h : us.findIdx? p with
    | none => rw [List.findIdx?_eq_none_iff] at h; simp; exact fun x hx => by simpa using h x hx
    | some i => rw [List.findIdx?_eq_some_iff_getElem] at h; obtain ⟨hi, h1, _⟩ := h; simp; exact ⟨us[i], List.getElem_mem hi, h1⟩
  rw [e0]
  clear e0
  go_enter Try.func33, Try.ntmps33
  go_wp2_with (first | (go_at_call 36; (with_reducible refine (index69_calls ⟨ua, un, uc⟩ us v p _ (by repeat (first | exact HR.out.below HB.out | refine Rw.alloc ?_ _ | refine Rw.drewN ?_ _ | refine Rw.drew ?_)) HN.out (Cnd.below HC.out (by repeat (first | (with_reducible first | exact HB.out | apply below_alloc | apply pw_below_drewN | apply below_drew1) | exact HB.out)))).mono ?_); rintro e wc_ ⟨rfl, hb⟩; have n0_ := Aside0.mk (below_step (by repeat (first | (with_reducible first | exact HB.out | apply below_alloc | apply pw_below_drewN | apply below_drew1) | exact HB.out)) hb); clear HB; have HB := n0_; clear n0_; (try clear hb)))
  go_ret
  exact ⟨rfl, (by repeat (first | (with_reducible first | exact HB.out | apply below_alloc | apply pw_below_drewN | apply below_drew1) | exact HB.out))⟩

set_option maxHeartbeats 8000000 in
set_option maxRecDepth 100000 in
theorem owns_calls (b : B) (win : Int) (P U : RS) (us : List S69) (a : Int) (w : World) (hR : Rw k69 w U us) (hn : U.n ≤ 100) : Calls Try.prog 22 #[.agg (gm b win P U), .int .i64 a] w fun e w' => e = .returned (.bool (ownsS us a)) ∧ Below w.heap.size w w' := by
  have hu37 := Try.underlying37
  obtain ⟨pa, pn, pc⟩ := P
  obtain ⟨ua, un, uc⟩ := U
  have HR := Aside0.mk hR
  have HN := Aside0.mk hn
  clear hR hn
  have HB := Aside0.mk (Below.refl w.heap.size w)
  go_enter Try.func22, Try.ntmps22
  go_wp2_with (first | ((with_reducible refine gate_dst (N := 2) rfl ?_); refine box_event ?hg (N := 2) ?hd (cs := (gm b win ⟨pa, pn, pc⟩ ⟨ua, un, uc⟩)) (t := 37) ?hr ?_; (case hd => rfl); (case hg => rfl); (case hr => first | (go_simp; done) | (go_simp; rfl)); intro g2 hg wg2_ hbox hb; have GEg2 := Aside0.mk ((by rw [hg]; exact (below_size (by repeat (first | (with_reducible first | exact HB.out | apply below_alloc | apply pw_below_drewN | apply below_drew1) | exact HB.out))) : w.heap.size ≤ g2)); have n0_ := Aside0.mk (below_step (by repeat (first | (with_reducible first | exact HB.out | apply below_alloc | apply pw_below_drewN | apply below_drew1) | exact HB.out)) hb); clear HB; have HB := n0_; clear n0_; have BKg2 := Aside0.mk hbox; clear hb hbox hg) | ((with_reducible refine gate_dst (N := 3) rfl ?_); refine box_event ?hg (N := 3) ?hd (cs := #[.int .i64 a]) (t := 3) ?hr ?_; (case hd => rfl); (case hg => rfl); (case hr => first | (go_simp; done) | (go_simp; rfl)); intro g3 hg wg3_ hbox hb; have GEg3 := Aside0.mk ((by rw [hg]; exact (below_size (by repeat (first | (with_reducible first | exact HB.out | apply below_alloc | apply pw_below_drewN | apply below_drew1) | exact HB.out))) : w.heap.size ≤ g3)); have n0_ := Aside0.mk (below_step (by repeat (first | (with_reducible first | exact HB.out | apply below_alloc | apply pw_below_drewN | apply below_drew1) | exact HB.out)) hb); have n1_ := Aside0.mk (blk_below (g := g2) (o := .cells (gm b win ⟨pa, pn, pc⟩ ⟨ua, un, uc⟩) 37 (0, 0)) (by (with_reducible repeat (first | refine blk_drewN ?_ _ | refine blk_drew ?_ | refine blk_alloc ?_ _)); exact BKg2.out) hb); clear HB BKg2; have HB := n0_; have BKg2 := n1_; clear n0_ n1_; have BKg3 := Aside0.mk hbox; clear hb hbox hg; obtain ⟨z1_0, z1_1, z1_2, z1_3, z1_4, z1_5, z1_6, z1_7, z1_8, z1_9, z1_10, z1_11, z1_12, z1_13, z1_14, z1_15⟩ := cells_G BKg2.out; have f1_ := blk_frozen BKg2.out; have z2_ := (blk_cell BKg3.out 0).trans rfl; have f2_ := blk_frozen BKg3.out) | (go_at_call 33; (with_reducible refine (contains_calls ⟨ua, un, uc⟩ us _ _ _ (by repeat (first | exact HR.out.below HB.out | refine Rw.alloc ?_ _ | refine Rw.drewN ?_ _ | refine Rw.drew ?_)) HN.out (owned_cnd g3 a (by (with_reducible repeat (first | refine blk_drewN ?_ _ | refine blk_drew ?_ | refine blk_alloc ?_ _)); exact BKg3.out))).mono ?_); rintro e wc_ ⟨rfl, hb⟩; have n0_ := Aside0.mk (below_step (by repeat (first | (with_reducible first | exact HB.out | apply below_alloc | apply pw_below_drewN | apply below_drew1) | exact HB.out)) hb); have n1_ := Aside0.mk (blk_below (g := g2) (o := .cells (gm b win ⟨pa, pn, pc⟩ ⟨ua, un, uc⟩) 37 (0, 0)) (by (with_reducible repeat (first | refine blk_drewN ?_ _ | refine blk_drew ?_ | refine blk_alloc ?_ _)); exact BKg2.out) hb); have n2_ := Aside0.mk (blk_below (g := g3) (o := .cells #[.int .i64 a] 3 (0, 0)) (by (with_reducible repeat (first | refine blk_drewN ?_ _ | refine blk_drew ?_ | refine blk_alloc ?_ _)); exact BKg3.out) hb); clear HB BKg2 BKg3; have HB := n0_; have BKg2 := n1_; have BKg3 := n2_; clear n0_ n1_ n2_; (try clear hb); obtain ⟨z3_0, z3_1, z3_2, z3_3, z3_4, z3_5, z3_6, z3_7, z3_8, z3_9, z3_10, z3_11, z3_12, z3_13, z3_14, z3_15⟩ := cells_G BKg2.out; have f3_ := blk_frozen BKg2.out; have z4_ := (blk_cell BKg3.out 0).trans rfl; have f4_ := blk_frozen BKg3.out))
  go_ret
  exact ⟨rfl, (by repeat (first | (with_reducible first | exact HB.out | apply below_alloc | apply pw_below_drewN | apply below_drew1) | exact HB.out))⟩

set_option maxHeartbeats 8000000 in
set_option maxRecDepth 100000 in
theorem numbered_calls (a : Int) (w : World) : Calls Try.prog 21 #[.int .i64 a] w fun e w' => ∃ gv, e = .returned (.func (.func 32) #[] #[.pointer (some ⟨gv, 0, none⟩)]) ∧ Cnd pl w' (.func (.func 32) #[] #[.pointer (some ⟨gv, 0, none⟩)]) (fun x => x.f0 == a) ∧ Below w.heap.size w w' := by
  have HB := Aside0.mk (Below.refl w.heap.size w)
  go_enter Try.func21, Try.ntmps21
  go_wp2_with (first | ((with_reducible refine gate_dst (N := 1) rfl ?_); refine box_event ?hg (N := 1) ?hd (cs := #[.int .i64 a]) (t := 3) ?hr ?_; (case hd => rfl); (case hg => rfl); (case hr => first | (go_simp; done) | (go_simp; rfl)); intro g1 hg wg1_ hbox hb; have GEg1 := Aside0.mk ((by rw [hg]; exact (below_size (by repeat (first | (with_reducible first | exact HB.out | apply below_alloc | apply pw_below_drewN | apply below_drew1) | exact HB.out))) : w.heap.size ≤ g1)); have n0_ := Aside0.mk (below_step (by repeat (first | (with_reducible first | exact HB.out | apply below_alloc | apply pw_below_drewN | apply below_drew1) | exact HB.out)) hb); clear HB; have HB := n0_; clear n0_; have BKg1 := Aside0.mk hbox; clear hb hbox hg; have z1_ := (blk_cell BKg1.out 0).trans rfl; have f1_ := blk_frozen BKg1.out))
  go_ret
  exact ⟨_, rfl, numbered_cnd g1 a (by (with_reducible repeat (first | refine blk_drewN ?_ _ | refine blk_drew ?_ | refine blk_alloc ?_ _)); exact BKg1.out), (by repeat (first | (with_reducible first | exact HB.out | apply below_alloc | apply pw_below_drewN | apply below_drew1) | exact HB.out))⟩

set_option maxHeartbeats 8000000 in
set_option maxRecDepth 100000 in
theorem find_calls (b : B) (win : Int) (P U : RS) (ps : List S52) (ad : Addr) (n c : Nat) (L : List (S52 → Bool)) (w : World) (hR : Rw k52 w P ps) (hn : P.n ≤ 100) (hL : Cnds w ad L) (hn1 : n = L.length) (hn2 : n ≤ 10) : Calls Try.prog 20 #[.agg (gm b win P U), .slice (some ad) n c] w fun e w' => e = .returned (.int .i64 (fstS (fun x => L.all (fun p => p x)) ps)) ∧ Below w.heap.size w w' := by
  have hu37 := Try.underlying37
  have hu71 := Try.underlying71
  obtain ⟨pa, pn, pc⟩ := P
  obtain ⟨ua, un, uc⟩ := U
  have HR := Aside0.mk hR
  have HN := Aside0.mk hn
  have HL := Aside0.mk hL
  have HN2 := Aside0.mk (And.intro hn1 hn2)
  clear hR hn hL hn1 hn2
  have HB := Aside0.mk (Below.refl w.heap.size w)
  go_enter Try.func20, Try.ntmps20
  go_wp2_with (first | ((with_reducible refine gate_dst (N := 2) rfl ?_); refine box_event ?hg (N := 2) ?hd (cs := (gm b win ⟨pa, pn, pc⟩ ⟨ua, un, uc⟩)) (t := 37) ?hr ?_; (case hd => rfl); (case hg => rfl); (case hr => first | (go_simp; done) | (go_simp; rfl)); intro g2 hg wg2_ hbox hb; have GEg2 := Aside0.mk ((by rw [hg]; exact (below_size (by repeat (first | (with_reducible first | exact HB.out | apply below_alloc | apply pw_below_drewN | apply below_drew1) | exact HB.out))) : w.heap.size ≤ g2)); have n0_ := Aside0.mk (below_step (by repeat (first | (with_reducible first | exact HB.out | apply below_alloc | apply pw_below_drewN | apply below_drew1) | exact HB.out)) hb); clear HB; have HB := n0_; clear n0_; have BKg2 := Aside0.mk hbox; clear hb hbox hg) | ((with_reducible refine gate_dst (N := 3) rfl ?_); refine box_event ?hg (N := 3) ?hd (cs := #[.slice (some ad) n c]) (t := 71) ?hr ?_; (case hd => rfl); (case hg => rfl); (case hr => first | (go_simp; done) | (go_simp; rfl)); intro g3 hg wg3_ hbox hb; have GEg3 := Aside0.mk ((by rw [hg]; exact (below_size (by repeat (first | (with_reducible first | exact HB.out | apply below_alloc | apply pw_below_drewN | apply below_drew1) | exact HB.out))) : w.heap.size ≤ g3)); have n0_ := Aside0.mk (below_step (by repeat (first | (with_reducible first | exact HB.out | apply below_alloc | apply pw_below_drewN | apply below_drew1) | exact HB.out)) hb); have n1_ := Aside0.mk (blk_below (g := g2) (o := .cells (gm b win ⟨pa, pn, pc⟩ ⟨ua, un, uc⟩) 37 (0, 0)) (by (with_reducible repeat (first | refine blk_drewN ?_ _ | refine blk_drew ?_ | refine blk_alloc ?_ _)); exact BKg2.out) hb); clear HB BKg2; have HB := n0_; have BKg2 := n1_; clear n0_ n1_; have BKg3 := Aside0.mk hbox; clear hb hbox hg; obtain ⟨z1_0, z1_1, z1_2, z1_3, z1_4, z1_5, z1_6, z1_7, z1_8, z1_9, z1_10, z1_11, z1_12, z1_13, z1_14, z1_15⟩ := cells_G BKg2.out; have f1_ := blk_frozen BKg2.out; have z2_ := (blk_cell BKg3.out 0).trans rfl; have f2_ := blk_frozen BKg3.out) | (go_at_call 30; (with_reducible refine (index52_calls ⟨pa, pn, pc⟩ ps _ _ _ (by repeat (first | exact HR.out.below HB.out | refine Rw.alloc ?_ _ | refine Rw.drewN ?_ _ | refine Rw.drew ?_)) HN.out (all_cnd g3 ad n c L (by (with_reducible repeat (first | refine blk_drewN ?_ _ | refine blk_drew ?_ | refine blk_alloc ?_ _)); exact BKg3.out) (HL.out.below (by repeat (first | (with_reducible first | exact HB.out | apply below_alloc | apply pw_below_drewN | apply below_drew1) | exact HB.out))) HN2.out.1 HN2.out.2)).mono ?_); rintro e wc_ ⟨rfl, hb⟩; have n0_ := Aside0.mk (below_step (by repeat (first | (with_reducible first | exact HB.out | apply below_alloc | apply pw_below_drewN | apply below_drew1) | exact HB.out)) hb); have n1_ := Aside0.mk (blk_below (g := g2) (o := .cells (gm b win ⟨pa, pn, pc⟩ ⟨ua, un, uc⟩) 37 (0, 0)) (by (with_reducible repeat (first | refine blk_drewN ?_ _ | refine blk_drew ?_ | refine blk_alloc ?_ _)); exact BKg2.out) hb); have n2_ := Aside0.mk (blk_below (g := g3) (o := .cells #[.slice (some ad) n c] 71 (0, 0)) (by (with_reducible repeat (first | refine blk_drewN ?_ _ | refine blk_drew ?_ | refine blk_alloc ?_ _)); exact BKg3.out) hb); clear HB BKg2 BKg3; have HB := n0_; have BKg2 := n1_; have BKg3 := n2_; clear n0_ n1_ n2_; (try clear hb); obtain ⟨z3_0, z3_1, z3_2, z3_3, z3_4, z3_5, z3_6, z3_7, z3_8, z3_9, z3_10, z3_11, z3_12, z3_13, z3_14, z3_15⟩ := cells_G BKg2.out; have f3_ := blk_frozen BKg2.out; have z4_ := (blk_cell BKg3.out 0).trans rfl; have f4_ := blk_frozen BKg3.out))
  go_ret
  exact ⟨rfl, (by repeat (first | (with_reducible first | exact HB.out | apply below_alloc | apply pw_below_drewN | apply below_drew1) | exact HB.out))⟩

end Go.Proofs.Ytolcofjdjbnimaa.V
