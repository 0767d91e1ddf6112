/- Chapter 33: the sample game, and what the functions answer for it. -/
import Derived.Test.YtolcofjdjbnimaaV14
namespace Go.Proofs.Ytolcofjdjbnimaa.V
open Go.RowKit Go.Proofs.YtolcofjdjbnimaaW.PrintWords Go.Proofs.YtolcofjdjbnimaaW.PrintLast Go.Proofs.YtolcofjdjbnimaaW.PrintMore
attribute [local go_sem] max2_int min2_int max_two min_two max_three min_three max_four min_four   -- for this text's walks alone
set_option linter.unusedVariables false
set_option linter.unusedSimpArgs false

theorem add_at (g k : Nat) : (⟨g, 0, none⟩ : Addr).add k = ⟨g, k, none⟩ := by
  cases k with
  | zero => rfl
  | succ k => simp [Addr.add]
theorem cell_lit {w : World} {g t : Nat} (pre c post : List Value) (h : w.heap[g]? = some (.cells (pre ++ (c ++ post)).toArray t (0, 0))) (i : Nat) (u : Value) (hu : c[i]? = some u) : w.cell? ((⟨g, 0, none⟩ : Addr).add (pre.length + i)) = some u := by
  have hl := (List.getElem?_eq_some_iff.1 hu).1
  rw [add_at, blk_cell h, List.getElem?_toArray, List.getElem?_append_right (by omega), Nat.add_sub_cancel_left, List.getElem?_append_left hl]
  exact hu
/-- The players and the entities of the sample, and of what is made of it. -/
def pl1 : S52 := ⟨1, 1, 0, 0, RS0, false⟩
def pl2 : S52 := ⟨2, 2, 0, 0, RS0, false⟩
def en1 : S69 := ⟨1, 1, ⟨#[]⟩, z65, 0, 0, 0, 0, 0, RS0, RS0⟩
def en2 : S69 := ⟨2, 2, ⟨#[]⟩, z65, 0, 0, 0, 0, 0, RS0, RS0⟩
def psA : List S52 := [pl1, pl2]
def usA : List S69 := [en1, en2]
def psB : List S52 := [pl1, outP pl2]
def usB : List S69 := [en1]
def psC : List S52 := [outP pl1, outP pl2]
@[reducible] def arr52 : Array Value := #[.int .i64 1, .int .i64 1, .int .i64 0, .int .i64 0, .slice none 0 0, .bool false, .int .i64 2, .int .i64 2, .int .i64 0, .int .i64 0, .slice none 0 0, .bool false]
@[reducible] def arr69 : Array Value := #[.int .i64 1, .int .i64 1, .string ⟨#[]⟩, .int .i64 0, .int .i64 0, .int .i64 0, .int .i64 0, .int .i64 0, .int .i64 0, .int .i64 0, .slice none 0 0, .slice none 0 0, .int .i64 2, .int .i64 2, .string ⟨#[]⟩, .int .i64 0, .int .i64 0, .int .i64 0, .int .i64 0, .int .i64 0, .int .i64 0, .int .i64 0, .slice none 0 0, .slice none 0 0]
theorem row_A {w : World} {g : Nat} (h : w.heap[g]? = some (.cells arr52 52 (0, 0))) : Rw k52 w ⟨some ⟨g, 0, none⟩, 2, 2⟩ psA := by
  refine ⟨⟨rfl, (by decide : 2 ≤ 9223372036854775807), fun _ => ⟨⟨g, 0, none⟩, rfl, fun j p hj => ?_⟩⟩, rfl, Nat.le_refl _⟩
  rcases j with _ | _ | j
  · obtain rfl : pl1 = p := by injection hj
    exact ⟨_, rfl, k52_mk w pl1, fun i u hu => cell_lit [] [.int .i64 1, .int .i64 1, .int .i64 0, .int .i64 0, .slice none 0 0, .bool false] [.int .i64 2, .int .i64 2, .int .i64 0, .int .i64 0, .slice none 0 0, .bool false] h i u hu⟩
  · obtain rfl : pl2 = p := by injection hj
    exact ⟨_, rfl, k52_mk w pl2, fun i u hu => cell_lit [.int .i64 1, .int .i64 1, .int .i64 0, .int .i64 0, .slice none 0 0, .bool false] [.int .i64 2, .int .i64 2, .int .i64 0, .int .i64 0, .slice none 0 0, .bool false] [] h i u hu⟩
  · cases hj
theorem row_U {w : World} {g : Nat} (h : w.heap[g]? = some (.cells arr69 69 (0, 0))) : Rw k69 w ⟨some ⟨g, 0, none⟩, 2, 2⟩ usA := by
  refine ⟨⟨rfl, (by decide : 2 ≤ 9223372036854775807), fun _ => ⟨⟨g, 0, none⟩, rfl, fun j p hj => ?_⟩⟩, rfl, Nat.le_refl _⟩
  rcases j with _ | _ | j
  · obtain rfl : en1 = p := by injection hj
    exact ⟨_, rfl, k69_mk w en1, fun i u hu => cell_lit [] [.int .i64 1, .int .i64 1, .string ⟨#[]⟩, .int .i64 0, .int .i64 0, .int .i64 0, .int .i64 0, .int .i64 0, .int .i64 0, .int .i64 0, .slice none 0 0, .slice none 0 0] [.int .i64 2, .int .i64 2, .string ⟨#[]⟩, .int .i64 0, .int .i64 0, .int .i64 0, .int .i64 0, .int .i64 0, .int .i64 0, .int .i64 0, .slice none 0 0, .slice none 0 0] h i u hu⟩
  · obtain rfl : en2 = p := by injection hj
    exact ⟨_, rfl, k69_mk w en2, fun i u hu => cell_lit [.int .i64 1, .int .i64 1, .string ⟨#[]⟩, .int .i64 0, .int .i64 0, .int .i64 0, .int .i64 0, .int .i64 0, .int .i64 0, .int .i64 0, .slice none 0 0, .slice none 0 0] [.int .i64 2, .int .i64 2, .string ⟨#[]⟩, .int .i64 0, .int .i64 0, .int .i64 0, .int .i64 0, .int .i64 0, .int .i64 0, .int .i64 0, .slice none 0 0, .slice none 0 0] [] h i u hu⟩
  · cases hj

set_option maxHeartbeats 8000000 in
set_option maxRecDepth 100000 in
theorem sample_calls (w : World) : Calls Try.prog 27 #[] w fun e w' => ∃ (b : B) (P U : RS), e = .returned (.agg (gm b 0 P U)) ∧ Rw k52 w' P psA ∧ Rw k69 w' U usA ∧ Below w.heap.size w w' := by
  have hu37 := Try.underlying37
  have hu52 := Try.underlying52
  have hu69 := Try.underlying69
  have HB := Aside0.mk (Below.refl w.heap.size w)
  go_enter Try.func27, Try.ntmps27
  go_wp2_with (first | ((with_reducible refine gate_dst (N := 0) rfl ?_); refine box_event ?hg (N := 0) ?hd (cs := (gm B0 0 RS0 RS0)) (t := 37) ?hr ?_; (case hd => rfl); (case hg => rfl); (case hr => first | (go_simp; done) | (go_simp; rfl)); intro g0 hg wb1_ hbox hb; have GEg0_HB := Aside0.mk (by rw [hg]; exact (below_size (by repeat (first | (with_reducible first | exact HB.out | apply below_alloc | apply pw_below_drewN | apply below_drew1) | exact HB.out))) : w.heap.size ≤ g0); have n0_ := Aside0.mk (below_step (by repeat (first | (with_reducible first | exact HB.out | apply below_alloc | apply pw_below_drewN | apply below_drew1) | exact HB.out)) hb); clear HB; have HB := n0_; clear n0_; have BKg0 := Aside0.mk hbox; clear hb hbox hg) | ((with_reducible refine gate_dst (N := 3) rfl ?_); refine lit_event (cs := arr52) (e := 52) (n := 2) rfl (N := 3) ?hd ?hr ?_; (case hd => rfl); (case hr => first | (go_simp; done) | (go_simp; rfl)); intro g3 hg wl2_ hbox hb; have GEg3_HB := Aside0.mk (by rw [hg]; exact (below_size (by repeat (first | (with_reducible first | exact HB.out | apply below_alloc | apply pw_below_drewN | apply below_drew1) | exact HB.out))) : w.heap.size ≤ g3); have NEg0_g3 := Aside0.mk (by rw [hg]; exact Nat.ne_of_lt (blk_lt (by (with_reducible repeat (first | refine blk_drewN ?_ _ | refine blk_drew ?_ | refine blk_alloc ?_ _)); exact BKg0.out)) : g0 ≠ g3); have n0_ := Aside0.mk (below_step (by repeat (first | (with_reducible first | exact HB.out | apply below_alloc | apply pw_below_drewN | apply below_drew1) | exact HB.out)) hb); have n1_ := Aside0.mk (blk_below (g := g0) (o := .cells (gm B0 0 RS0 RS0) 37 (0, 0)) (by (with_reducible repeat (first | refine blk_drewN ?_ _ | refine blk_drew ?_ | refine blk_alloc ?_ _)); exact BKg0.out) hb); clear HB BKg0; have HB := n0_; have BKg0 := n1_; clear n0_ n1_; have BKg3 := Aside0.mk hbox; clear hb hbox hg) | ((with_reducible refine gate_dst (N := 6) rfl ?_); refine lit_event (cs := arr69) (e := 69) (n := 2) rfl (N := 6) ?hd ?hr ?_; (case hd => rfl); (case hr => first | (go_simp; done) | (go_simp; rfl)); intro g6 hg wl3_ hbox hb; have GEg6_HB := Aside0.mk (by rw [hg]; exact (below_size (by repeat (first | (with_reducible first | exact HB.out | apply below_alloc | apply pw_below_drewN | apply below_drew1) | exact HB.out))) : w.heap.size ≤ g6); have NEg0_g6 := Aside0.mk (by rw [hg]; exact Nat.ne_of_lt (blk_lt (by (with_reducible repeat (first | refine blk_drewN ?_ _ | refine blk_drew ?_ | refine blk_alloc ?_ _)); exact BKg0.out)) : g0 ≠ g6); have NEg3_g6 := Aside0.mk (by rw [hg]; exact Nat.ne_of_lt (blk_lt (by (with_reducible repeat (first | refine blk_drewN ?_ _ | refine blk_drew ?_ | refine blk_alloc ?_ _)); exact BKg3.out)) : g3 ≠ g6); have n0_ := Aside0.mk (below_step (by repeat (first | (with_reducible first | exact HB.out | apply below_alloc | apply pw_below_drewN | apply below_drew1) | exact HB.out)) hb); have n1_ := Aside0.mk (blk_below (g := g0) (o := .cells (gm B0 0 RS0 RS0) 37 (0, 0)) (by (with_reducible repeat (first | refine blk_drewN ?_ _ | refine blk_drew ?_ | refine blk_alloc ?_ _)); exact BKg0.out) hb); have n2_ := Aside0.mk (blk_below (g := g3) (o := .cells arr52 52 (0, 0)) (by (with_reducible repeat (first | refine blk_drewN ?_ _ | refine blk_drew ?_ | refine blk_alloc ?_ _)); exact BKg3.out) hb); clear HB BKg0 BKg3; have HB := n0_; have BKg0 := n1_; have BKg3 := n2_; clear n0_ n1_ n2_; have BKg6 := Aside0.mk hbox; clear hb hbox hg) | ((with_reducible refine gate_store (t := 37) (p := 0) rfl ?_); refine store_G_event (b' := B0) (win' := 0) (P' := ⟨some ⟨g3, 0, none⟩, 2, 2⟩) (U' := ⟨some ⟨g6, 0, none⟩, 2, 2⟩) rfl _ _ rfl rfl rfl rfl (by (with_reducible repeat (first | refine blk_drewN ?_ _ | refine blk_drew ?_ | refine blk_alloc ?_ _)); exact BKg0.out) ?_; intro wt4_ hblk hput; have n0_ := Aside0.mk (hput.below (by repeat (first | (with_reducible first | exact HB.out | apply below_alloc | apply pw_below_drewN | apply below_drew1) | exact HB.out)) GEg0_HB.out); have n1_ := Aside0.mk (hblk); have n2_ := Aside0.mk (hput.blk (by (with_reducible repeat (first | refine blk_drewN ?_ _ | refine blk_drew ?_ | refine blk_alloc ?_ _)); exact BKg3.out) (Ne.symm NEg0_g3.out)); have n3_ := Aside0.mk (hput.blk (by (with_reducible repeat (first | refine blk_drewN ?_ _ | refine blk_drew ?_ | refine blk_alloc ?_ _)); exact BKg6.out) (Ne.symm NEg0_g6.out)); clear HB BKg0 BKg3 BKg6; have HB := n0_; have BKg0 := n1_; have BKg3 := n2_; have BKg6 := n3_; clear n0_ n1_ n2_ n3_; clear hblk hput))
  refine bodyPost_ret (results_single rfl (.cell g0 37 (gm B0 0 ⟨some ⟨g3, 0, none⟩, 2, 2⟩ ⟨some ⟨g6, 0, none⟩, 2, 2⟩) (0, 0) _ rfl (by (with_reducible repeat (first | refine blk_drewN ?_ _ | refine blk_drew ?_ | refine blk_alloc ?_ _)); exact BKg0.out) Try.underlying37 rfl (by kernel_rfl) .nil)) rfl ?_
  exact ⟨B0, _, _, rfl, row_A (by (with_reducible repeat (first | refine blk_drewN ?_ _ | refine blk_drew ?_ | refine blk_alloc ?_ _)); exact BKg3.out), row_U (by (with_reducible repeat (first | refine blk_drewN ?_ _ | refine blk_drew ?_ | refine blk_alloc ?_ _)); exact BKg6.out), (by repeat (first | (with_reducible first | exact HB.out | apply below_alloc | apply pw_below_drewN | apply below_drew1) | exact HB.out))⟩

theorem f_A1 : phP usA psA = psA := by kernel_rfl
theorem f_A2 : phW 0 usA psA = 0 := by kernel_rfl
theorem f_A3 : phV 0 usA psA = [] := by kernel_rfl
theorem f_A4 : resCode psA 2 = 0 := by kernel_rfl
theorem f_A5 : resP psA 2 = psB := by kernel_rfl
theorem f_A6 : resU psA usA 2 = usB := by kernel_rfl
theorem f_B1 : phP usB psB = psB := by kernel_rfl
theorem f_B2 : phW 0 usB psB = 1 := by kernel_rfl
theorem f_B3 : phV 0 usB psB = [⟨7, 0, 1, ⟨#[]⟩⟩] := by kernel_rfl
theorem f_B4 : resCode psB 1 = 0 := by kernel_rfl
theorem f_B5 : resP psB 1 = psC := by kernel_rfl
theorem f_B6 : resU psB usB 1 = [] := by kernel_rfl
theorem f_B7 : resCode psB 2 = 21 := by kernel_rfl
theorem f_B8 : resCode psB 3 = 8 := by kernel_rfl
theorem f_B9 : winnerS psB = 1 := by kernel_rfl
theorem f_BA : aliveS psB usB 1 = true := by kernel_rfl
theorem f_BB : aliveS psB usB 2 = false := by kernel_rfl
theorem f_C1 : phP [] psC = psC := by kernel_rfl
theorem f_C2 : phW 0 [] psC = -1 := by kernel_rfl
theorem f_C3 : phV 0 [] psC = [⟨7, 0, -1, ⟨#[]⟩⟩] := by kernel_rfl
theorem le100 {α : Type} {k : Kd α} {w : World} {P : RS} {xs : List α} (h : Rw k w P xs) (hl : xs.length ≤ 100) : P.n ≤ 100 := by
  rw [h.len]; exact hl
theorem aw_phase {ps ps' : List S52} {us : List S69} {m : Int} {es : List S62} (h1 : phP us ps = ps') (h2 : phW 0 us ps = m) (h3 : phV 0 us ps = es) (hl : ps.length ≤ 100) (hm : us.length ≤ 100) (b : B) (P U : RS) (w : World) (hR : Rw k52 w P ps) (hU : Rw k69 w U us) :
    Calls Try.prog 13 #[.agg (gm b 0 P U)] w fun e w' => ∃ P' E' : RS, e = .returned (.tuple #[.agg (gm b m P' U), .slice E'.a E'.n E'.c]) ∧ Rw k52 w' P' ps' ∧ Rw k62 w' E' es ∧ Below w.heap.size w w' := by
  have h := phase_calls b 0 P U ps us w hR hU (le100 hR hl) (le100 hU hm)
  rw [h1, h2, h3] at h
  exact h
theorem aw_resign {ps ps' : List S52} {us us' : List S69} {a : Int} (h0 : resCode ps a = 0) (h1 : resP ps a = ps') (h2 : resU ps us a = us') (hl : ps.length ≤ 100) (hm : us.length ≤ 100) (b : B) (win : Int) (P U : RS) (w : World) (hR : Rw k52 w P ps) (hU : Rw k69 w U us) :
    Calls Try.prog 17 #[.agg (gm b win P U), .int .i64 a] w fun e w' => ∃ P' U' : RS, e = .returned (.tuple #[.agg (gm b win P' U'), .int .i64 0]) ∧ Rw k52 w' P' ps' ∧ Rw k69 w' U' us' ∧ Below w.heap.size w w' := by
  have h := resign_calls b win P U ps us a w hR hU (le100 hR hl) (le100 hU hm)
  unfold resB resW at h
  rw [h1, h2, h0, if_pos rfl, if_pos rfl] at h
  exact h
theorem aw_refuse {ps : List S52} {us : List S69} {a c : Int} (h0 : resCode ps a = c) (hl : ps.length ≤ 100) (hm : us.length ≤ 100) (b : B) (win : Int) (P U : RS) (w : World) (hR : Rw k52 w P ps) (hU : Rw k69 w U us) :
    Calls Try.prog 17 #[.agg (gm b win P U), .int .i64 a] w fun e w' => ∃ (b' : B) (win' : Int) (P' U' : RS), e = .returned (.tuple #[.agg (gm b' win' P' U'), .int .i64 c]) ∧ Below w.heap.size w w' := by
  refine (resign_calls b win P U ps us a w hR hU (le100 hR hl) (le100 hU hm)).mono ?_
  rintro e w' ⟨P', U', rfl, -, -, hb⟩
  rw [h0]
  exact ⟨_, _, P', U', rfl, hb⟩

end Go.Proofs.Ytolcofjdjbnimaa.V
