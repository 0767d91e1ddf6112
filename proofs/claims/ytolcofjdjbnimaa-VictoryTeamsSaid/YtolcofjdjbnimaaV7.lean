/- Chapter 33: the walk of the reference's Winner. -/
import Derived.Test.YtolcofjdjbnimaaV6
import Derived.Test.YtolcofjdjbnimaaVM
namespace Go.Proofs.Ytolcofjdjbnimaa.V
open Go.RowKit Go.Proofs.YtolcofjdjbnimaaW.PrintWords Go.Proofs.YtolcofjdjbnimaaW.PrintLast Go.Proofs.YtolcofjdjbnimaaW.PrintMore
attribute [local go_sem] max2_int min2_int max_two min_two max_three min_three max_four min_four   -- for this text's walks alone
set_option linter.unusedVariables false
set_option linter.unusedSimpArgs false

/-- The reference's Winner over a list, from a state on. -/
def rwin : List S52 → Int → Bool → Int
  | [], team, any => if any then team else -1
  | p :: r, team, any => if p.f5 then rwin r team any else if any && p.f1 != team then 0 else rwin r p.f1 true
theorem drop52 {ps : List S52} {x : Int} (h0 : 0 ≤ x) (h1 : x < ps.length) : ps.drop x.toNat = rd_T52 ps x :: ps.drop (x + 1).toNat := by
  obtain ⟨i, rfl⟩ := Int.eq_ofNat_of_zero_le h0
  have hi : i < ps.length := by omega
  rw [rd52 ps i hi, show ((i : Int) + 1).toNat = i + 1 by omega, show (i : Int).toNat = i by omega]
  exact List.drop_eq_getElem_cons hi
theorem fstS_cons {α : Type} (p : α → Bool) (x : α) (l : List α) : fstS p (x :: l) = if p x then 0 else if fstS p l < 0 then -1 else fstS p l + 1 := by
  unfold fstS
  rw [List.findIdx?_cons]
  by_cases h : p x = true
  · simp [h]
  · simp only [if_neg h]
    cases h2 : l.findIdx? p with
    | none => simp
    | some i => simp; omega
theorem rwin_true (ps : List S52) (team : Int) : rwin ps team true = if 0 ≤ fstS (fun x => !x.f5 && x.f1 != team) ps then 0 else team := by
  induction ps with
  | nil => rfl
  | cons p r ih =>
    rw [fstS_cons]
    unfold rwin
    by_cases h : p.f5 = true
    · simp only [h, if_true, Bool.not_true, Bool.false_and, Bool.false_eq_true, if_false]
      rw [ih]
      have := (fstS_lt (fun x : S52 => !x.f5 && x.f1 != team) r).2
      by_cases c : fstS (fun x : S52 => !x.f5 && x.f1 != team) r < 0
      · rw [if_pos c, if_neg (by omega), if_neg (by omega)]
      · rw [if_neg c, if_pos (by omega), if_pos (by omega)]
    · have h' : p.f5 = false := by simpa using h
      simp only [h', Bool.false_eq_true, if_false, Bool.not_false, Bool.true_and]
      by_cases d : p.f1 = team
      · simp only [d, bne_self_eq_false, Bool.false_eq_true, if_false]
        rw [ih]
        have := (fstS_lt (fun x : S52 => !x.f5 && x.f1 != team) r).2
        by_cases c : fstS (fun x : S52 => !x.f5 && x.f1 != team) r < 0
        · rw [if_pos c, if_neg (by omega), if_neg (by omega)]
        · rw [if_neg c, if_pos (by omega), if_pos (by omega)]
      · have : (p.f1 != team) = true := by simpa using d
        simp [this]
theorem rwin_is (ps : List S52) (t0 : Int) : rwin ps t0 false = winnerS ps := by
  induction ps generalizing t0 with
  | nil => rfl
  | cons p r ih =>
    by_cases h : p.f5 = true
    · have e0 : fstS (fun x : S52 => !x.f5) (p :: r) = if fstS (fun x : S52 => !x.f5) r < 0 then -1 else fstS (fun x : S52 => !x.f5) r + 1 := by rw [fstS_cons]; simp [h]
      have e1 : ∀ t, fstS (fun x : S52 => !x.f5 && x.f1 != t) (p :: r) = if fstS (fun x : S52 => !x.f5 && x.f1 != t) r < 0 then -1 else fstS (fun x : S52 => !x.f5 && x.f1 != t) r + 1 := fun t => by rw [fstS_cons]; simp [h]
      have e2 : rwin (p :: r) t0 false = rwin r t0 false := by rw [rwin]; simp [h]
      rw [e2, ih]
      unfold winnerS
      by_cases c : fstS (fun x : S52 => !x.f5) r < 0
      · rw [if_pos c] at e0
        rw [e0, if_pos c, if_pos (show (-1 : Int) < 0 by decide)]
      · rw [if_neg c] at e0
        have e : rd_T52 (p :: r) (fstS (fun x : S52 => !x.f5) r + 1) = rd_T52 r (fstS (fun x : S52 => !x.f5) r) := by
          unfold rd_T52
          rw [show (fstS (fun x : S52 => !x.f5) r + 1).toNat = (fstS (fun x : S52 => !x.f5) r).toNat + 1 by omega]
          simp [List.getD]
        rw [e0, if_neg c, if_neg (show ¬ fstS (fun x : S52 => !x.f5) r + 1 < 0 by omega), e, e1]
        generalize fstS (fun x : S52 => !x.f5 && x.f1 != (rd_T52 r (fstS (fun x => !x.f5) r)).f1) r = m
        by_cases d : m < 0
        · rw [if_pos d, if_neg (show ¬ 0 ≤ m by omega), if_neg (show ¬ (0 : Int) ≤ -1 by decide)]
        · rw [if_neg d, if_pos (show 0 ≤ m by omega), if_pos (show 0 ≤ m + 1 by omega)]
    · have h' : p.f5 = false := by simpa using h
      have e0 : fstS (fun x : S52 => !x.f5) (p :: r) = 0 := by rw [fstS_cons]; simp [h']
      have e1 : fstS (fun x : S52 => !x.f5 && x.f1 != p.f1) (p :: r) = if fstS (fun x : S52 => !x.f5 && x.f1 != p.f1) r < 0 then -1 else fstS (fun x : S52 => !x.f5 && x.f1 != p.f1) r + 1 := by rw [fstS_cons]; simp
      have e2 : rwin (p :: r) t0 false = rwin r p.f1 true := by rw [rwin]; simp [h']
      have e : rd_T52 (p :: r) 0 = p := by simp [rd_T52]
      unfold winnerS
      rw [e2, rwin_true, e0, if_neg (show ¬ (0 : Int) < 0 by decide), e, e1]
      generalize fstS (fun x : S52 => !x.f5 && x.f1 != p.f1) r = m
      by_cases d : m < 0
      · rw [if_pos d, if_neg (show ¬ 0 ≤ m by omega), if_neg (show ¬ (0 : Int) ≤ -1 by decide)]
      · rw [if_neg d, if_pos (show 0 ≤ m by omega), if_pos (show 0 ≤ m + 1 by omega)]

set_option maxHeartbeats 8000000 in
set_option maxRecDepth 100000 in
theorem rwinner_calls (b : B) (win : Int) (P U : RS) (ps : List S52) (w : World) (hR : Rw k52 w P ps) (hn : P.n ≤ 100) : Calls Try.prog 11 #[.agg (gm b win P U)] w fun e w' => e = .returned (.int .i64 (winnerS ps)) ∧ Below w.heap.size w w' := by
  have hu37 := Try.underlying37
  have hu52 := Try.underlying52
  obtain ⟨pa, pn, pc⟩ := P
  obtain ⟨ua, un, uc⟩ := U
  have HR := Aside0.mk hR
  have HN := Aside0.mk hn
  clear hR hn
  have HB := Aside0.mk (Below.refl w.heap.size w)
  rw [← rwin_is ps 0]
  go_enter Try.func11, Try.ntmps11
  go_wp2_with (first | ((with_reducible refine gate_dst (N := 1) rfl ?_); refine box_event ?hg (N := 1) ?hd (cs := (gm b win ⟨pa, pn, pc⟩ ⟨ua, un, uc⟩)) (t := 37) ?hr ?_; (case hd => rfl); (case hg => rfl); (case hr => first | (go_simp; done) | (go_simp; rfl)); intro g1 hg wg1_ hbox hb; have GEg1 := Aside0.mk ((by rw [hg]; exact (below_size (by repeat (first | (with_reducible first | exact HB.out | apply below_alloc | apply pw_below_drewN | apply below_drew1) | exact HB.out))) : w.heap.size ≤ g1)); have n0_ := Aside0.mk (below_step (by repeat (first | (with_reducible first | exact HB.out | apply below_alloc | apply pw_below_drewN | apply below_drew1) | exact HB.out)) hb); clear HB; have HB := n0_; clear n0_; have BKg1 := Aside0.mk hbox; clear hb hbox hg))
  go_loopg [3, 4, 5] 200 (fun kq v3 v4 v5 w' => ∃ (team : Int) (any : Bool) (x : Int), v3 = .int .i64 team ∧ v4 = .bool any ∧ v5 = .int .i64 x ∧ Aside0 (0 ≤ x ∧ x ≤ pn ∧ (kq : Int) + x ≥ 101) ∧ Aside0 (rwin (ps.drop x.toNat) team any = rwin ps 0 false) ∧ Aside0 (w'.heap[g1]? = some (.cells (gm b win ⟨pa, pn, pc⟩ ⟨ua, un, uc⟩) 37 (0, 0))) ∧ Aside0 (Below w.heap.size w w'))
  case atStart => exact ⟨0, false, 0, rfl, rfl, rfl, ⟨by have := HN.out; omega⟩, ⟨rfl⟩, ⟨by (with_reducible repeat (first | refine blk_drewN ?_ _ | refine blk_drew ?_ | refine blk_alloc ?_ _)); exact BKg1.out⟩, ⟨(by repeat (first | (with_reducible first | exact HB.out | apply below_alloc | apply pw_below_drewN | apply below_drew1) | exact HB.out))⟩⟩
  case round =>
    clear BKg1 HB
    obtain ⟨team, any, x, rfl, rfl, rfl, HI, HA, BKg1, HB⟩ := hrel
    have hi := HI.out
    have hnn : pn ≤ 100 := HN.out
    cases gk with
    | zero => exfalso; omega
    | succ k1 =>
    by_cases c4 : x < (pn : Int)
    · have c4b := decide_eq_true c4
      have p0 : 0 ≤ x := hi.1
      have p0b := decide_eq_true p0
      have hw : wrap64 (x + 1) = x + 1 := wrap64_of (by omega) (by omega)
      obtain ⟨ad, he, h0, h1, h2, h3, h4, h5⟩ := at_P HR.out HB.out x p0 c4
      dsimp only at he
      subst he
      obtain ⟨z1_0, z1_1, z1_2, z1_3, z1_4, z1_5, z1_6, z1_7, z1_8, z1_9, z1_10, z1_11, z1_12, z1_13, z1_14, z1_15⟩ := cells_G BKg1.out
      have f1_ := blk_frozen BKg1.out
      replace p0 := eq_true p0
      have c4k := Aside0.mk c4
      replace c4 := eq_true c4
      obtain ⟨q, hq⟩ : ∃ q, q = (rd_T52 ps x).f5 := ⟨_, rfl⟩
      have hqk := Aside0.mk hq
      clear hq hi hnn
      cases q with
      | true =>
        go_wp2_with (first | ((with_reducible refine gate_dst (N := 6) rfl ?_); refine box_event ?hg (N := 6) ?hd (cs := (pl z52)) (t := 52) ?hr ?_; (case hd => rfl); (case hg => rfl); (case hr => first | (go_simp; done) | (go_simp; rfl)); intro g6 hg wg6_ hbox hb; have GEg6 := Aside0.mk ((by rw [hg]; exact (below_size (by repeat (first | (with_reducible first | exact HB.out | apply below_alloc | apply pw_below_drewN | apply below_drew1) | exact HB.out))) : w.heap.size ≤ g6)); have NEg1_g6 := Aside0.mk (by rw [hg]; exact Nat.ne_of_lt (blk_lt (by (with_reducible repeat (first | refine blk_drewN ?_ _ | refine blk_drew ?_ | refine blk_alloc ?_ _)); exact BKg1.out)) : g1 ≠ g6); have n0_ := Aside0.mk (below_step (by repeat (first | (with_reducible first | exact HB.out | apply below_alloc | apply pw_below_drewN | apply below_drew1) | exact HB.out)) hb); have n1_ := Aside0.mk (blk_below (g := g1) (o := .cells (gm b win ⟨some ad, pn, pc⟩ ⟨ua, un, uc⟩) 37 (0, 0)) (by (with_reducible repeat (first | refine blk_drewN ?_ _ | refine blk_drew ?_ | refine blk_alloc ?_ _)); exact BKg1.out) hb); clear HB BKg1; have HB := n0_; have BKg1 := n1_; clear n0_ n1_; have BKg6 := Aside0.mk hbox; clear hb hbox hg) | ((with_reducible refine gate_store (t := 52) (p := 6) rfl ?_); refine store_P_event rfl _ _ rfl rfl rfl rfl (by (with_reducible repeat (first | refine blk_drewN ?_ _ | refine blk_drew ?_ | refine blk_alloc ?_ _)); exact BKg6.out) ?_; intro ws_ hblk hput; have n0_ := Aside0.mk (hput.below (by repeat (first | (with_reducible first | exact HB.out | apply below_alloc | apply pw_below_drewN | apply below_drew1) | exact HB.out)) GEg6.out); have n1_ := Aside0.mk (hput.blk (by (with_reducible repeat (first | refine blk_drewN ?_ _ | refine blk_drew ?_ | refine blk_alloc ?_ _)); exact BKg1.out) NEg1_g6.out); have n2_ := Aside0.mk hblk; clear HB BKg1 BKg6; have HB := n0_; have BKg1 := n1_; have BKg6 := n2_; clear n0_ n1_ n2_; clear hblk hput; obtain ⟨z1_0, z1_1, z1_2, z1_3, z1_4, z1_5, z1_6, z1_7, z1_8, z1_9, z1_10, z1_11, z1_12, z1_13, z1_14, z1_15⟩ := cells_G BKg1.out; have f1_ := blk_frozen BKg1.out; obtain ⟨z2_0, z2_1, z2_2, z2_3, z2_4, z2_5⟩ := cells_P BKg6.out; have f2_ := blk_frozen BKg6.out; rw [← hqk.out] at z2_5))
        go_roundg k1
        case measure => omega
        case rel => exact ⟨team, any, x + 1, by first | rfl | (simp [*]; done), by first | rfl | (simp [*]; done), by first | rfl | (simp [*]; done), ⟨by have i_ := HI.out; have c_ := c4k.out; refine ⟨by omega, by omega, by omega⟩⟩, ⟨by rw [← HA.out, drop52 HI.out.1 (by have l_ : pn = ps.length := HR.out.len; have c_ := c4k.out; omega)]; simp [rwin, ← hqk.out]⟩, ⟨by (with_reducible repeat (first | refine blk_drewN ?_ _ | refine blk_drew ?_ | refine blk_alloc ?_ _)); exact BKg1.out⟩, ⟨(by repeat (first | (with_reducible first | exact HB.out | apply below_alloc | apply pw_below_drewN | apply below_drew1) | exact HB.out))⟩⟩
      | false =>
      cases any with
      | false =>
        go_wp2_with (first | ((with_reducible refine gate_dst (N := 6) rfl ?_); refine box_event ?hg (N := 6) ?hd (cs := (pl z52)) (t := 52) ?hr ?_; (case hd => rfl); (case hg => rfl); (case hr => first | (go_simp; done) | (go_simp; rfl)); intro g6 hg wg6_ hbox hb; have GEg6 := Aside0.mk ((by rw [hg]; exact (below_size (by repeat (first | (with_reducible first | exact HB.out | apply below_alloc | apply pw_below_drewN | apply below_drew1) | exact HB.out))) : w.heap.size ≤ g6)); have NEg1_g6 := Aside0.mk (by rw [hg]; exact Nat.ne_of_lt (blk_lt (by (with_reducible repeat (first | refine blk_drewN ?_ _ | refine blk_drew ?_ | refine blk_alloc ?_ _)); exact BKg1.out)) : g1 ≠ g6); have n0_ := Aside0.mk (below_step (by repeat (first | (with_reducible first | exact HB.out | apply below_alloc | apply pw_below_drewN | apply below_drew1) | exact HB.out)) hb); have n1_ := Aside0.mk (blk_below (g := g1) (o := .cells (gm b win ⟨some ad, pn, pc⟩ ⟨ua, un, uc⟩) 37 (0, 0)) (by (with_reducible repeat (first | refine blk_drewN ?_ _ | refine blk_drew ?_ | refine blk_alloc ?_ _)); exact BKg1.out) hb); clear HB BKg1; have HB := n0_; have BKg1 := n1_; clear n0_ n1_; have BKg6 := Aside0.mk hbox; clear hb hbox hg) | ((with_reducible refine gate_store (t := 52) (p := 6) rfl ?_); refine store_P_event rfl _ _ rfl rfl rfl rfl (by (with_reducible repeat (first | refine blk_drewN ?_ _ | refine blk_drew ?_ | refine blk_alloc ?_ _)); exact BKg6.out) ?_; intro ws_ hblk hput; have n0_ := Aside0.mk (hput.below (by repeat (first | (with_reducible first | exact HB.out | apply below_alloc | apply pw_below_drewN | apply below_drew1) | exact HB.out)) GEg6.out); have n1_ := Aside0.mk (hput.blk (by (with_reducible repeat (first | refine blk_drewN ?_ _ | refine blk_drew ?_ | refine blk_alloc ?_ _)); exact BKg1.out) NEg1_g6.out); have n2_ := Aside0.mk hblk; clear HB BKg1 BKg6; have HB := n0_; have BKg1 := n1_; have BKg6 := n2_; clear n0_ n1_ n2_; clear hblk hput; obtain ⟨z1_0, z1_1, z1_2, z1_3, z1_4, z1_5, z1_6, z1_7, z1_8, z1_9, z1_10, z1_11, z1_12, z1_13, z1_14, z1_15⟩ := cells_G BKg1.out; have f1_ := blk_frozen BKg1.out; obtain ⟨z2_0, z2_1, z2_2, z2_3, z2_4, z2_5⟩ := cells_P BKg6.out; have f2_ := blk_frozen BKg6.out; rw [← hqk.out] at z2_5))
        go_roundg k1
        case measure => omega
        case rel => exact ⟨(rd_T52 ps x).f1, true, x + 1, by first | rfl | (simp [*]; done), by first | rfl | (simp [*]; done), by first | rfl | (simp [*]; done), ⟨by have i_ := HI.out; have c_ := c4k.out; refine ⟨by omega, by omega, by omega⟩⟩, ⟨by rw [← HA.out, drop52 HI.out.1 (by have l_ : pn = ps.length := HR.out.len; have c_ := c4k.out; omega)]; simp [rwin, ← hqk.out]⟩, ⟨by (with_reducible repeat (first | refine blk_drewN ?_ _ | refine blk_drew ?_ | refine blk_alloc ?_ _)); exact BKg1.out⟩, ⟨(by repeat (first | (with_reducible first | exact HB.out | apply below_alloc | apply pw_below_drewN | apply below_drew1) | exact HB.out))⟩⟩
      | true =>
      by_cases d : (rd_T52 ps x).f1 = team
      · have d1 : ((rd_T52 ps x).f1 != team) = false := by simp [d]
        have dk := Aside0.mk d
        clear d
        go_wp2_with (first | ((with_reducible refine gate_dst (N := 6) rfl ?_); refine box_event ?hg (N := 6) ?hd (cs := (pl z52)) (t := 52) ?hr ?_; (case hd => rfl); (case hg => rfl); (case hr => first | (go_simp; done) | (go_simp; rfl)); intro g6 hg wg6_ hbox hb; have GEg6 := Aside0.mk ((by rw [hg]; exact (below_size (by repeat (first | (with_reducible first | exact HB.out | apply below_alloc | apply pw_below_drewN | apply below_drew1) | exact HB.out))) : w.heap.size ≤ g6)); have NEg1_g6 := Aside0.mk (by rw [hg]; exact Nat.ne_of_lt (blk_lt (by (with_reducible repeat (first | refine blk_drewN ?_ _ | refine blk_drew ?_ | refine blk_alloc ?_ _)); exact BKg1.out)) : g1 ≠ g6); have n0_ := Aside0.mk (below_step (by repeat (first | (with_reducible first | exact HB.out | apply below_alloc | apply pw_below_drewN | apply below_drew1) | exact HB.out)) hb); have n1_ := Aside0.mk (blk_below (g := g1) (o := .cells (gm b win ⟨some ad, pn, pc⟩ ⟨ua, un, uc⟩) 37 (0, 0)) (by (with_reducible repeat (first | refine blk_drewN ?_ _ | refine blk_drew ?_ | refine blk_alloc ?_ _)); exact BKg1.out) hb); clear HB BKg1; have HB := n0_; have BKg1 := n1_; clear n0_ n1_; have BKg6 := Aside0.mk hbox; clear hb hbox hg) | ((with_reducible refine gate_store (t := 52) (p := 6) rfl ?_); refine store_P_event rfl _ _ rfl rfl rfl rfl (by (with_reducible repeat (first | refine blk_drewN ?_ _ | refine blk_drew ?_ | refine blk_alloc ?_ _)); exact BKg6.out) ?_; intro ws_ hblk hput; have n0_ := Aside0.mk (hput.below (by repeat (first | (with_reducible first | exact HB.out | apply below_alloc | apply pw_below_drewN | apply below_drew1) | exact HB.out)) GEg6.out); have n1_ := Aside0.mk (hput.blk (by (with_reducible repeat (first | refine blk_drewN ?_ _ | refine blk_drew ?_ | refine blk_alloc ?_ _)); exact BKg1.out) NEg1_g6.out); have n2_ := Aside0.mk hblk; clear HB BKg1 BKg6; have HB := n0_; have BKg1 := n1_; have BKg6 := n2_; clear n0_ n1_ n2_; clear hblk hput; obtain ⟨z1_0, z1_1, z1_2, z1_3, z1_4, z1_5, z1_6, z1_7, z1_8, z1_9, z1_10, z1_11, z1_12, z1_13, z1_14, z1_15⟩ := cells_G BKg1.out; have f1_ := blk_frozen BKg1.out; obtain ⟨z2_0, z2_1, z2_2, z2_3, z2_4, z2_5⟩ := cells_P BKg6.out; have f2_ := blk_frozen BKg6.out; rw [← hqk.out] at z2_5))
        go_roundg k1
        case measure => omega
        case rel => exact ⟨(rd_T52 ps x).f1, true, x + 1, by first | rfl | (simp [*]; done), by first | rfl | (simp [*]; done), by first | rfl | (simp [*]; done), ⟨by have i_ := HI.out; have c_ := c4k.out; refine ⟨by omega, by omega, by omega⟩⟩, ⟨by rw [← HA.out, drop52 HI.out.1 (by have l_ : pn = ps.length := HR.out.len; have c_ := c4k.out; omega)]; simp [rwin, ← hqk.out, dk.out]⟩, ⟨by (with_reducible repeat (first | refine blk_drewN ?_ _ | refine blk_drew ?_ | refine blk_alloc ?_ _)); exact BKg1.out⟩, ⟨(by repeat (first | (with_reducible first | exact HB.out | apply below_alloc | apply pw_below_drewN | apply below_drew1) | exact HB.out))⟩⟩
      · have d1 : ((rd_T52 ps x).f1 != team) = true := by simp [d]
        have dk := Aside0.mk d1
        clear d
        go_wp2_with (first | ((with_reducible refine gate_dst (N := 6) rfl ?_); refine box_event ?hg (N := 6) ?hd (cs := (pl z52)) (t := 52) ?hr ?_; (case hd => rfl); (case hg => rfl); (case hr => first | (go_simp; done) | (go_simp; rfl)); intro g6 hg wg6_ hbox hb; have GEg6 := Aside0.mk ((by rw [hg]; exact (below_size (by repeat (first | (with_reducible first | exact HB.out | apply below_alloc | apply pw_below_drewN | apply below_drew1) | exact HB.out))) : w.heap.size ≤ g6)); have NEg1_g6 := Aside0.mk (by rw [hg]; exact Nat.ne_of_lt (blk_lt (by (with_reducible repeat (first | refine blk_drewN ?_ _ | refine blk_drew ?_ | refine blk_alloc ?_ _)); exact BKg1.out)) : g1 ≠ g6); have n0_ := Aside0.mk (below_step (by repeat (first | (with_reducible first | exact HB.out | apply below_alloc | apply pw_below_drewN | apply below_drew1) | exact HB.out)) hb); have n1_ := Aside0.mk (blk_below (g := g1) (o := .cells (gm b win ⟨some ad, pn, pc⟩ ⟨ua, un, uc⟩) 37 (0, 0)) (by (with_reducible repeat (first | refine blk_drewN ?_ _ | refine blk_drew ?_ | refine blk_alloc ?_ _)); exact BKg1.out) hb); clear HB BKg1; have HB := n0_; have BKg1 := n1_; clear n0_ n1_; have BKg6 := Aside0.mk hbox; clear hb hbox hg) | ((with_reducible refine gate_store (t := 52) (p := 6) rfl ?_); refine store_P_event rfl _ _ rfl rfl rfl rfl (by (with_reducible repeat (first | refine blk_drewN ?_ _ | refine blk_drew ?_ | refine blk_alloc ?_ _)); exact BKg6.out) ?_; intro ws_ hblk hput; have n0_ := Aside0.mk (hput.below (by repeat (first | (with_reducible first | exact HB.out | apply below_alloc | apply pw_below_drewN | apply below_drew1) | exact HB.out)) GEg6.out); have n1_ := Aside0.mk (hput.blk (by (with_reducible repeat (first | refine blk_drewN ?_ _ | refine blk_drew ?_ | refine blk_alloc ?_ _)); exact BKg1.out) NEg1_g6.out); have n2_ := Aside0.mk hblk; clear HB BKg1 BKg6; have HB := n0_; have BKg1 := n1_; have BKg6 := n2_; clear n0_ n1_ n2_; clear hblk hput; obtain ⟨z1_0, z1_1, z1_2, z1_3, z1_4, z1_5, z1_6, z1_7, z1_8, z1_9, z1_10, z1_11, z1_12, z1_13, z1_14, z1_15⟩ := cells_G BKg1.out; have f1_ := blk_frozen BKg1.out; obtain ⟨z2_0, z2_1, z2_2, z2_3, z2_4, z2_5⟩ := cells_P BKg6.out; have f2_ := blk_frozen BKg6.out; rw [← hqk.out] at z2_5))
        go_ret
        exact ⟨by
          have : rwin ps 0 false = 0 := by rw [← HA.out, drop52 HI.out.1 (by have l_ : pn = ps.length := HR.out.len; have c_ := c4k.out; omega)]; simp [rwin, ← hqk.out, dk.out]
          rw [this]; rfl, (by repeat (first | (with_reducible first | exact HB.out | apply below_alloc | apply pw_below_drewN | apply below_drew1) | exact HB.out))⟩
    · have c4b := decide_eq_false c4
      have c4k := Aside0.mk c4
      have e : rwin ps 0 false = if any then team else -1 := by
        rw [← HA.out, List.drop_of_length_le (by have l_ : pn = ps.length := HR.out.len; omega)]; rfl
      replace e := Aside0.mk e
      obtain ⟨z1_0, z1_1, z1_2, z1_3, z1_4, z1_5, z1_6, z1_7, z1_8, z1_9, z1_10, z1_11, z1_12, z1_13, z1_14, z1_15⟩ := cells_G BKg1.out
      have f1_ := blk_frozen BKg1.out
      clear c4 hi hnn
      cases any with
      | true =>
        go_wp2
        go_ret
        exact ⟨by rw [e.out]; rfl, (by repeat (first | (with_reducible first | exact HB.out | apply below_alloc | apply pw_below_drewN | apply below_drew1) | exact HB.out))⟩
      | false =>
        go_wp2
        go_ret
        exact ⟨by rw [e.out]; rfl, (by repeat (first | (with_reducible first | exact HB.out | apply below_alloc | apply pw_below_drewN | apply below_drew1) | exact HB.out))⟩

end Go.Proofs.Ytolcofjdjbnimaa.V
