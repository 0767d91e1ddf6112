/- Functions as plain ones, and proofs that the Go code comes to their answers. Out of the kit's print program, cut by hand. -/
import Derived.Test.YtdjndjgafdfkaaaFx
namespace Go.Proofs.Ytdjndjgafdfkaaa.F
open Go.RowKit Go.Proofs.YtdjndjgafdfkaaaW.PrintWords Go.Proofs.YtdjndjgafdfkaaaW.PrintLast Go.Proofs.YtdjndjgafdfkaaaW.PrintMore
attribute [local go_sem] max2_int min2_int max_two min_two max_three min_three max_four min_four   -- for this text's walks alone
set_option linter.unusedVariables false
set_option linter.unusedSimpArgs false

/-! ### skirmishlaw04_WireRoundTrips: function 6 -/
def skirmishlaw04_WireRoundTrips.j0 : Nat → ByteArray → ByteArray → Bool → Int → Int → Bool → ByteArray → Option (Bool)
  | 0, _, _, _, _, _, _, _ => none
  | k + 1, x1, x2, x40, x210000, x210001, x210002, x210003 => if x40 = true then ((skirmishlaw04_awake.f k).bind fun t210 => (some t210)) else ((wire_Uint.f k x210000).bind fun t211 => ((wire_Int.f k x210001).bind fun t212 => ((wire_Bool.f x210002).bind fun t213 => ((wire_Text.f k x210003).bind fun t214 => (if x1.size + t211.size ≤ 9223372036854775807 then (if (x1 ++ t211).size + x2.size ≤ 9223372036854775807 then ((wire_TakeUint.f k ((x1 ++ t211) ++ x2) (x1.size : Int)).bind fun bt215 => (if x1.size + t212.size ≤ 9223372036854775807 then (if (x1 ++ t212).size + x2.size ≤ 9223372036854775807 then ((wire_TakeInt.f k ((x1 ++ t212) ++ x2) (x1.size : Int)).bind fun bt218 => (if x1.size + t213.size ≤ 9223372036854775807 then (if (x1 ++ t213).size + x2.size ≤ 9223372036854775807 then ((wire_TakeBool.f k ((x1 ++ t213) ++ x2) (x1.size : Int)).bind fun bt221 => (if x1.size + t214.size ≤ 9223372036854775807 then (if (x1 ++ t214).size + x2.size ≤ 9223372036854775807 then ((wire_TakeText.f k ((x1 ++ t214) ++ x2) (x1.size : Int) (x210003.size : Int)).bind fun bt224 => ((wire_TakeCount.f k ((x1 ++ t214) ++ x2) (x1.size : Int) 2000).bind fun bt227 => (if bt215.2.2 = 0 then (if bt218.2.2 = 0 then (if bt221.2.2 = 0 then (if bt224.2.2 = 0 then (if bt227.2.2 = 0 then (if bt215.1 = x210000 then (if bt215.2.1 = (wrap64 ((x1.size : Int) + (t211.size : Int))) then (if bt218.1 = x210001 then (if bt218.2.1 = (wrap64 ((x1.size : Int) + (t212.size : Int))) then (if (bt221.1 == x210002) = true then (if bt221.2.1 = (wrap64 ((x1.size : Int) + (t213.size : Int))) then (if bt224.1.toList = x210003.toList then (if bt224.2.1 = (wrap64 ((x1.size : Int) + (t214.size : Int))) then (if bt227.1 = (x210003.size : Int) then (if bt227.2.1 = (wrap64 (bt224.2.1 - (x210003.size : Int))) then ((skirmishlaw04_awake.f k).bind fun t230 => (some t230)) else (some false)) else (some false)) else (some false)) else (some false)) else (some false)) else (some false)) else (some false)) else (some false)) else (some false)) else (some false)) else (some false)) else (some false)) else (some false)) else (some false)) else (some false)))) else (none)) else (none))) else (none)) else (none))) else (none)) else (none))) else (none)) else (none))))))
def skirmishlaw04_WireRoundTrips.f (k : Nat) (a0_0 : Int) (a0_1 : Int) (a0_2 : Bool) (a0_3 : ByteArray) (a1 : ByteArray) (a2 : ByteArray) : Option (Bool) := if (a0_3.size : Int) > 2000 then (skirmishlaw04_WireRoundTrips.j0 k a1 a2 true a0_0 a0_1 a0_2 a0_3) else (if (a1.size : Int) > 2000 then (skirmishlaw04_WireRoundTrips.j0 k a1 a2 true a0_0 a0_1 a0_2 a0_3) else (skirmishlaw04_WireRoundTrips.j0 k a1 a2 (decide ((a2.size : Int) > 2000)) a0_0 a0_1 a0_2 a0_3))
theorem skirmishlaw04_WireRoundTrips.mono_l : ∀ k, (∀ y0 y1 y2 y3 y4 y5 y6, LeO (skirmishlaw04_WireRoundTrips.j0 k y0 y1 y2 y3 y4 y5 y6) (skirmishlaw04_WireRoundTrips.j0 (k + 1) y0 y1 y2 y3 y4 y5 y6))
  | 0 => fun _ _ _ _ _ _ _ r h => by simp [skirmishlaw04_WireRoundTrips.j0] at h
  | k + 1 => by
    have ih0 := skirmishlaw04_WireRoundTrips.mono_l k
    · intro y0 y1 y2 y3 y4 y5 y6
      unfold skirmishlaw04_WireRoundTrips.j0
      repeat' first
      | (with_reducible exact ih0 _ _ _ _ _ _ _)
      | (with_reducible exact skirmishlaw04_awake.mono _)
      | (with_reducible exact wire_Int.mono _ _)
      | (with_reducible exact wire_TakeBool.mono _ _ _)
      | (with_reducible exact wire_TakeCount.mono _ _ _ _)
      | (with_reducible exact wire_TakeInt.mono _ _ _)
      | (with_reducible exact wire_TakeText.mono _ _ _ _)
      | (with_reducible exact wire_TakeUint.mono _ _ _)
      | (with_reducible exact wire_Text.mono _ _)
      | (with_reducible exact wire_Uint.mono _ _)
      | (with_reducible exact LeO.refl _)
      | (with_reducible exact LeO.none _)
      | (with_reducible refine LeO.ite ?_ ?_)
      | (with_reducible refine LeO.bind ?_ (fun _ => ?_))
      | exact ih0 _ _ _ _ _ _ _
      | exact skirmishlaw04_awake.mono _
      | exact wire_Int.mono _ _
      | exact wire_TakeBool.mono _ _ _
      | exact wire_TakeCount.mono _ _ _ _
      | exact wire_TakeInt.mono _ _ _
      | exact wire_TakeText.mono _ _ _ _
      | exact wire_TakeUint.mono _ _ _
      | exact wire_Text.mono _ _
      | exact wire_Uint.mono _ _
      | exact LeO.none _
      | refine LeO.ite ?_ ?_
      | refine LeO.bind ?_ (fun _ => ?_)
theorem skirmishlaw04_WireRoundTrips.mono : ∀ a0 a1 a2 a3 a4 a5 k, LeO (skirmishlaw04_WireRoundTrips.f k a0 a1 a2 a3 a4 a5) (skirmishlaw04_WireRoundTrips.f (k + 1) a0 a1 a2 a3 a4 a5) := by
  intro a0 a1 a2 a3 a4 a5 k
  have ih0 := skirmishlaw04_WireRoundTrips.mono_l k
  unfold skirmishlaw04_WireRoundTrips.f
  repeat' first
      | (with_reducible exact ih0 _ _ _ _ _ _ _)
      | (with_reducible exact skirmishlaw04_awake.mono _)
      | (with_reducible exact wire_Int.mono _ _)
      | (with_reducible exact wire_TakeBool.mono _ _ _)
      | (with_reducible exact wire_TakeCount.mono _ _ _ _)
      | (with_reducible exact wire_TakeInt.mono _ _ _)
      | (with_reducible exact wire_TakeText.mono _ _ _ _)
      | (with_reducible exact wire_TakeUint.mono _ _ _)
      | (with_reducible exact wire_Text.mono _ _)
      | (with_reducible exact wire_Uint.mono _ _)
      | (with_reducible exact LeO.refl _)
      | (with_reducible exact LeO.none _)
      | (with_reducible refine LeO.ite ?_ ?_)
      | (with_reducible refine LeO.bind ?_ (fun _ => ?_))
      | exact ih0 _ _ _ _ _ _ _
      | exact skirmishlaw04_awake.mono _
      | exact wire_Int.mono _ _
      | exact wire_TakeBool.mono _ _ _
      | exact wire_TakeCount.mono _ _ _ _
      | exact wire_TakeInt.mono _ _ _
      | exact wire_TakeText.mono _ _ _ _
      | exact wire_TakeUint.mono _ _ _
      | exact wire_Text.mono _ _
      | exact wire_Uint.mono _ _
      | exact LeO.none _
      | refine LeO.ite ?_ ?_
      | refine LeO.bind ?_ (fun _ => ?_)
def skirmishlaw04_WireRoundTrips.T4 : Bool × List (List Nat × List Nat) := (true, [([], []), ([0], [0]), ([1], [1]), ([], []), ([3], [3]), ([4, 2], [4]), ([], []), ([6], [6]), ([7, 5], [7]), ([], []), ([9], [9]), ([10, 8], [10]), ([2, 11, 0, 1, 2], [2]), ([5, 12, 0, 1, 2, 3, 4, 5, 12], [5]), ([8, 13, 0, 1, 2, 3, 4, 5, 6, 7, 8, 12, 13], [8]), ([11, 14, 0, 1, 2, 3, 4, 5, 6, 7, 8, 9, 10, 11, 12, 13, 14], [11])])
def skirmishlaw04_WireRoundTrips.B4 : List Nat := [0, 1, 3, 0, 8, 31, 0, 64, 255, 0, 512, 2047, 4095, 8191, 16383, 32767]
theorem skirmishlaw04_WireRoundTrips.tab4 : rtab .any (opsOf Try.f6 4) = skirmishlaw04_WireRoundTrips.T4 := by kernel_rfl
theorem skirmishlaw04_WireRoundTrips.bits4 : waitsOk skirmishlaw04_WireRoundTrips.T4.2 skirmishlaw04_WireRoundTrips.B4 = true := by kernel_rfl
set_option maxHeartbeats 8000000 in
set_option maxRecDepth 100000 in
theorem skirmishlaw04_WireRoundTrips.calls (k : Nat) (a0_0 : Int) (a0_1 : Int) (a0_2 : Bool) (a0_3 : ByteArray) (a1 : ByteArray) (a2 : ByteArray) (r : Bool) (hr : r = true) (w : World) (h : skirmishlaw04_WireRoundTrips.f k a0_0 a0_1 a0_2 a0_3 a1 a2 = some r) :
    Calls Try.prog 6 #[.agg #[.int .u64 a0_0, .int .i64 a0_1, .bool a0_2, .string a0_3], .string a1, .string a2] w fun e w' => e = .returned (.bool r) ∧ Below w.heap.size w w' := by
  have Hr := Aside0.mk hr
  clear hr
  have hu39 := Try.underlying39
  have HB := Aside0.mk (Below.refl w.heap.size w)
  have H : (if (a0_3.size : Int) > 2000 then (skirmishlaw04_WireRoundTrips.j0 k a1 a2 true a0_0 a0_1 a0_2 a0_3) else (if (a1.size : Int) > 2000 then (skirmishlaw04_WireRoundTrips.j0 k a1 a2 true a0_0 a0_1 a0_2 a0_3) else (skirmishlaw04_WireRoundTrips.j0 k a1 a2 (decide ((a2.size : Int) > 2000)) a0_0 a0_1 a0_2 a0_3))) = some r := h
  clear h
  have HC4 := Aside0.mk H
  clear H
  go_enter Try.func6, Try.ntmps6
  go_upto_region 1 with (first | ((with_reducible refine gate_dst (N := 3) rfl ?_); (try (refine gate_guard (by rfl) ?_; dsimp only)); refine box_event ?hg (N := 3) ?hd (cs := #[.int .u64 a0_0, .int .i64 a0_1, .bool a0_2, .string a0_3]) (t := 39) ?hr ?_; (case hd => rfl); (case hg => rfl); (case hr => first | (go_simp; done) | (go_simp; rfl)); intro gb209 hg w5 hbox hb; have n0_ := Aside0.mk (below_step (by repeat (first | (with_reducible first | exact HB.out | apply below_alloc | apply pw_below_drewN | apply below_drew1) | exact HB.out)) hb); have n1_ := Aside0.mk (hbox); have n2_ := Aside0.mk ((by rw [hg]; exact (below_size (by repeat (first | (with_reducible first | exact HB.out | apply below_alloc | apply pw_below_drewN | apply below_drew1) | exact HB.out))) : w.heap.size ≤ gb209)); have n3_ := Aside0.mk ((by rw [hg]; exact (below_size (by repeat (first | (with_reducible first | exact HB.out | apply below_alloc | apply pw_below_drewN | apply below_drew1) | exact HB.out))) : w.heap.size ≤ gb209)); clear HB; have HB := n0_; have BK209 := n1_; have GW209 := n2_; have GE209 := n3_; clear n0_ n1_ n2_ n3_; clear hb hbox hg))
  (try simp only [Act.put, List.setIfInBounds_toArray, List.set_cons_zero, List.set_cons_succ])
  go_cut [40] (fun v40 wc => ∃ (kq : Nat) (x40_3 : Bool), v40 = .bool x40_3 ∧ Aside0 (skirmishlaw04_WireRoundTrips.j0 kq a1 a2 x40_3 a0_0 a0_1 a0_2 a0_3 = some r) ∧ Aside0 (kq ≤ k) ∧ Aside0 (wc.heap[gb209]? = some (.cells #[.int .u64 a0_0, .int .i64 a0_1, .bool a0_2, .string a0_3] 39 (0, 0))) ∧ Aside0 (Below w.heap.size w wc))
  case first =>
    have H := HC4.out
    clear HC4
    by_cases c6 : (a0_3.size : Int) > 2000
    · rw [if_pos c6] at H
      have c6b0 : decide (2000 < (a0_3.size : Int)) = true := decide_eq_true c6
      have c6b1 : decide (2000 < a0_3.size) = true := decide_eq_true (by omega)
      clear c6
      (first | rw [c6b0] | (simp only [i64_w, i32_w]; rw [c6b0]) | skip)
      have H' := Aside0.mk H
      clear H
      have hcz7_0 : w5.cell? ⟨gb209, 0, none⟩ = some (.int .u64 a0_0) := (blk_cell BK209.out 0).trans rfl
      have hcz7_1 : w5.cell? ⟨gb209, 1, none⟩ = some (.int .i64 a0_1) := (blk_cell BK209.out 1).trans rfl
      have hcz7_2 : w5.cell? ⟨gb209, 2, none⟩ = some (.bool a0_2) := (blk_cell BK209.out 2).trans rfl
      have hcz7_3 : w5.cell? ⟨gb209, 3, none⟩ = some (.string a0_3) := (blk_cell BK209.out 3).trans rfl
      have hfz7_0 := blk_frozen BK209.out 0
      have hfz7_1 := blk_frozen BK209.out 1
      have hfz7_2 := blk_frozen BK209.out 2
      have hfz7_3 := blk_frozen BK209.out 3
      go_wp2
      go_meet
      case rel => exact ⟨_, (true), (by first | rfl | (simp; done) | (simp [*]; done)), H', ⟨by first | omega | exact Nat.le_refl _⟩, ⟨by (with_reducible repeat (first | refine blk_drewN ?_ _ | refine blk_drew ?_ | refine blk_alloc ?_ _)); exact BK209.out⟩, ⟨by repeat (first | (with_reducible first | exact HB.out | apply below_alloc | apply pw_below_drewN | apply below_drew1 | refine below_set ?_ GE209.out) | exact HB.out)⟩⟩
    · rw [if_neg c6] at H
      have c6b0 : decide (2000 < (a0_3.size : Int)) = false := decide_eq_false c6
      have c6b1 : decide (2000 < a0_3.size) = false := decide_eq_false (by omega)
      clear c6
      (first | rw [c6b0] | (simp only [i64_w, i32_w]; rw [c6b0]) | skip)
      by_cases c8 : (a1.size : Int) > 2000
      · rw [if_pos c8] at H
        have c8b0 : decide (2000 < (a1.size : Int)) = true := decide_eq_true c8
        have c8b1 : decide (2000 < a1.size) = true := decide_eq_true (by omega)
        clear c8
        have H' := Aside0.mk H
        clear H
        have hcz9_0 : w5.cell? ⟨gb209, 0, none⟩ = some (.int .u64 a0_0) := (blk_cell BK209.out 0).trans rfl
        have hcz9_1 : w5.cell? ⟨gb209, 1, none⟩ = some (.int .i64 a0_1) := (blk_cell BK209.out 1).trans rfl
        have hcz9_2 : w5.cell? ⟨gb209, 2, none⟩ = some (.bool a0_2) := (blk_cell BK209.out 2).trans rfl
        have hcz9_3 : w5.cell? ⟨gb209, 3, none⟩ = some (.string a0_3) := (blk_cell BK209.out 3).trans rfl
        have hfz9_0 := blk_frozen BK209.out 0
        have hfz9_1 := blk_frozen BK209.out 1
        have hfz9_2 := blk_frozen BK209.out 2
        have hfz9_3 := blk_frozen BK209.out 3
        go_wp2
        go_meet
        case rel => exact ⟨_, (true), (by first | rfl | (simp; done) | (simp [*]; done)), H', ⟨by first | omega | exact Nat.le_refl _⟩, ⟨by (with_reducible repeat (first | refine blk_drewN ?_ _ | refine blk_drew ?_ | refine blk_alloc ?_ _)); exact BK209.out⟩, ⟨by repeat (first | (with_reducible first | exact HB.out | apply below_alloc | apply pw_below_drewN | apply below_drew1 | refine below_set ?_ GE209.out) | exact HB.out)⟩⟩
      · rw [if_neg c8] at H
        have c8b0 : decide (2000 < (a1.size : Int)) = false := decide_eq_false c8
        have c8b1 : decide (2000 < a1.size) = false := decide_eq_false (by omega)
        clear c8
        have H' := Aside0.mk H
        clear H
        have hcz10_0 : w5.cell? ⟨gb209, 0, none⟩ = some (.int .u64 a0_0) := (blk_cell BK209.out 0).trans rfl
        have hcz10_1 : w5.cell? ⟨gb209, 1, none⟩ = some (.int .i64 a0_1) := (blk_cell BK209.out 1).trans rfl
        have hcz10_2 : w5.cell? ⟨gb209, 2, none⟩ = some (.bool a0_2) := (blk_cell BK209.out 2).trans rfl
        have hcz10_3 : w5.cell? ⟨gb209, 3, none⟩ = some (.string a0_3) := (blk_cell BK209.out 3).trans rfl
        have hfz10_0 := blk_frozen BK209.out 0
        have hfz10_1 := blk_frozen BK209.out 1
        have hfz10_2 := blk_frozen BK209.out 2
        have hfz10_3 := blk_frozen BK209.out 3
        go_wp2
        go_meet
        case rel => exact ⟨_, (decide ((a2.size : Int) > 2000)), (by first | rfl | (simp; done) | (simp [*]; done)), H', ⟨by first | omega | exact Nat.le_refl _⟩, ⟨by (with_reducible repeat (first | refine blk_drewN ?_ _ | refine blk_drew ?_ | refine blk_alloc ?_ _)); exact BK209.out⟩, ⟨by repeat (first | (with_reducible first | exact HB.out | apply below_alloc | apply pw_below_drewN | apply below_drew1 | refine below_set ?_ GE209.out) | exact HB.out)⟩⟩
  case rest =>
    clear HC4
    try clear p2
    try clear c6
    try clear c6b0
    try clear c6b1
    try clear c8
    try clear c8b0
    try clear c8b1
    try clear hcz10_0
    try clear hcz10_1
    try clear hcz10_2
    try clear hcz10_3
    try clear hcz7_0
    try clear hcz7_1
    try clear hcz7_2
    try clear hcz7_3
    try clear hcz9_0
    try clear hcz9_1
    try clear hcz9_2
    try clear hcz9_3
    try clear hfz10_0
    try clear hfz10_1
    try clear hfz10_2
    try clear hfz10_3
    try clear hfz7_0
    try clear hfz7_1
    try clear hfz7_2
    try clear hfz7_3
    try clear hfz9_0
    try clear hfz9_1
    try clear hfz9_2
    try clear hfz9_3
    obtain ⟨kq, x40_3, rfl, HA, HJ3, BK209, HB⟩ := hcut
    cases kq with
    | zero => exact absurd HA.out (by simp [skirmishlaw04_WireRoundTrips.j0])
    | succ kj3 =>
      have H := HA.out
      clear HA
      simp only [skirmishlaw04_WireRoundTrips.j0] at H
      by_cases c11 : x40_3 = true
      · subst c11
        have H1 : ((skirmishlaw04_awake.f kj3).bind fun t210 => (some t210)) = some r := by rw [if_pos rfl] at H; exact H
        clear H
        have H := H1
        clear H1
        replace H := Option.bind_eq_some_iff.mp H
        obtain ⟨t210, A120, H⟩ := H
        replace H : (some t210) = some r := H
        have A12 := Aside0.mk A120
        clear A120
        obtain rfl := Option.some.inj H
        go_wp2_with (first | ((with_reducible refine gate_callee (f := 9) rfl ?_); refine goesL_ (some 41) rfl rfl Try.func9 (by kernel_rfl) rfl #[] rfl (by (try simp only [List.map_toArray, List.map_cons, List.map_nil]); first | done | rfl | (simp only [List.length_drop, List.length_take]; rfl)) ?_; (with_reducible refine (skirmishlaw04_awake.calls kj3  t210 _ A12.out).mono ?_); rintro e w13 ⟨rfl, hb⟩; refine ⟨_, rfl, ?_⟩; have n0_ := Aside0.mk (blk_below (g := gb209) (o := .cells #[.int .u64 a0_0, .int .i64 a0_1, .bool a0_2, .string a0_3] 39 (0, 0)) (by (with_reducible repeat (first | refine blk_drewN ?_ _ | refine blk_drew ?_ | refine blk_alloc ?_ _)); exact BK209.out) hb); have n1_ := Aside0.mk (below_step (by repeat (first | (with_reducible first | exact HB.out | apply below_alloc | apply pw_below_drewN | apply below_drew1 | refine below_set ?_ GE209.out) | exact HB.out)) hb); clear BK209; clear HB; have BK209 := n0_; have HB := n1_; clear n0_ n1_; (try clear hb); (try clear hb2); (try clear hk); (try clear hi)))
        go_ret
        exact ⟨by first | rfl | (simp [errW_none, errW_some] <;> rfl) | (simp [*, errW_none, errW_some] <;> rfl), by repeat (first | (with_reducible first | exact HB.out | apply below_alloc | apply pw_below_drewN | apply below_drew1 | refine below_set ?_ GE209.out) | exact HB.out)⟩
      · replace c11 := Bool.eq_false_iff.mpr c11
        subst c11
        have H1 : ((wire_Uint.f kj3 a0_0).bind fun t211 => ((wire_Int.f kj3 a0_1).bind fun t212 => ((wire_Bool.f a0_2).bind fun t213 => ((wire_Text.f kj3 a0_3).bind fun t214 => (if a1.size + t211.size ≤ 9223372036854775807 then (if (a1 ++ t211).size + a2.size ≤ 9223372036854775807 then ((wire_TakeUint.f kj3 ((a1 ++ t211) ++ a2) (a1.size : Int)).bind fun bt215 => (if a1.size + t212.size ≤ 9223372036854775807 then (if (a1 ++ t212).size + a2.size ≤ 9223372036854775807 then ((wire_TakeInt.f kj3 ((a1 ++ t212) ++ a2) (a1.size : Int)).bind fun bt218 => (if a1.size + t213.size ≤ 9223372036854775807 then (if (a1 ++ t213).size + a2.size ≤ 9223372036854775807 then ((wire_TakeBool.f kj3 ((a1 ++ t213) ++ a2) (a1.size : Int)).bind fun bt221 => (if a1.size + t214.size ≤ 9223372036854775807 then (if (a1 ++ t214).size + a2.size ≤ 9223372036854775807 then ((wire_TakeText.f kj3 ((a1 ++ t214) ++ a2) (a1.size : Int) (a0_3.size : Int)).bind fun bt224 => ((wire_TakeCount.f kj3 ((a1 ++ t214) ++ a2) (a1.size : Int) 2000).bind fun bt227 => (if bt215.2.2 = 0 then (if bt218.2.2 = 0 then (if bt221.2.2 = 0 then (if bt224.2.2 = 0 then (if bt227.2.2 = 0 then (if bt215.1 = a0_0 then (if bt215.2.1 = (wrap64 ((a1.size : Int) + (t211.size : Int))) then (if bt218.1 = a0_1 then (if bt218.2.1 = (wrap64 ((a1.size : Int) + (t212.size : Int))) then (if (bt221.1 == a0_2) = true then (if bt221.2.1 = (wrap64 ((a1.size : Int) + (t213.size : Int))) then (if bt224.1.toList = a0_3.toList then (if bt224.2.1 = (wrap64 ((a1.size : Int) + (t214.size : Int))) then (if bt227.1 = (a0_3.size : Int) then (if bt227.2.1 = (wrap64 (bt224.2.1 - (a0_3.size : Int))) then ((skirmishlaw04_awake.f kj3).bind fun t230 => (some t230)) else (some false)) else (some false)) else (some false)) else (some false)) else (some false)) else (some false)) else (some false)) else (some false)) else (some false)) else (some false)) else (some false)) else (some false)) else (some false)) else (some false)) else (some false)))) else (none)) else (none))) else (none)) else (none))) else (none)) else (none))) else (none)) else (none)))))) = some r := by rw [if_neg (show ¬ (false = true) by decide)] at H; exact H
        clear H
        have H := H1
        clear H1
        replace H := Option.bind_eq_some_iff.mp H
        obtain ⟨t211, A140, H⟩ := H
        replace H : ((wire_Int.f kj3 a0_1).bind fun t212 => ((wire_Bool.f a0_2).bind fun t213 => ((wire_Text.f kj3 a0_3).bind fun t214 => (if a1.size + t211.size ≤ 9223372036854775807 then (if (a1 ++ t211).size + a2.size ≤ 9223372036854775807 then ((wire_TakeUint.f kj3 ((a1 ++ t211) ++ a2) (a1.size : Int)).bind fun bt215 => (if a1.size + t212.size ≤ 9223372036854775807 then (if (a1 ++ t212).size + a2.size ≤ 9223372036854775807 then ((wire_TakeInt.f kj3 ((a1 ++ t212) ++ a2) (a1.size : Int)).bind fun bt218 => (if a1.size + t213.size ≤ 9223372036854775807 then (if (a1 ++ t213).size + a2.size ≤ 9223372036854775807 then ((wire_TakeBool.f kj3 ((a1 ++ t213) ++ a2) (a1.size : Int)).bind fun bt221 => (if a1.size + t214.size ≤ 9223372036854775807 then (if (a1 ++ t214).size + a2.size ≤ 9223372036854775807 then ((wire_TakeText.f kj3 ((a1 ++ t214) ++ a2) (a1.size : Int) (a0_3.size : Int)).bind fun bt224 => ((wire_TakeCount.f kj3 ((a1 ++ t214) ++ a2) (a1.size : Int) 2000).bind fun bt227 => (if bt215.2.2 = 0 then (if bt218.2.2 = 0 then (if bt221.2.2 = 0 then (if bt224.2.2 = 0 then (if bt227.2.2 = 0 then (if bt215.1 = a0_0 then (if bt215.2.1 = (wrap64 ((a1.size : Int) + (t211.size : Int))) then (if bt218.1 = a0_1 then (if bt218.2.1 = (wrap64 ((a1.size : Int) + (t212.size : Int))) then (if (bt221.1 == a0_2) = true then (if bt221.2.1 = (wrap64 ((a1.size : Int) + (t213.size : Int))) then (if bt224.1.toList = a0_3.toList then (if bt224.2.1 = (wrap64 ((a1.size : Int) + (t214.size : Int))) then (if bt227.1 = (a0_3.size : Int) then (if bt227.2.1 = (wrap64 (bt224.2.1 - (a0_3.size : Int))) then ((skirmishlaw04_awake.f kj3).bind fun t230 => (some t230)) else (some false)) else (some false)) else (some false)) else (some false)) else (some false)) else (some false)) else (some false)) else (some false)) else (some false)) else (some false)) else (some false)) else (some false)) else (some false)) else (some false)) else (some false)))) else (none)) else (none))) else (none)) else (none))) else (none)) else (none))) else (none)) else (none))))) = some r := H
        have A14 := Aside0.mk A140
        clear A140
        replace H := Option.bind_eq_some_iff.mp H
        obtain ⟨t212, A150, H⟩ := H
        replace H : ((wire_Bool.f a0_2).bind fun t213 => ((wire_Text.f kj3 a0_3).bind fun t214 => (if a1.size + t211.size ≤ 9223372036854775807 then (if (a1 ++ t211).size + a2.size ≤ 9223372036854775807 then ((wire_TakeUint.f kj3 ((a1 ++ t211) ++ a2) (a1.size : Int)).bind fun bt215 => (if a1.size + t212.size ≤ 9223372036854775807 then (if (a1 ++ t212).size + a2.size ≤ 9223372036854775807 then ((wire_TakeInt.f kj3 ((a1 ++ t212) ++ a2) (a1.size : Int)).bind fun bt218 => (if a1.size + t213.size ≤ 9223372036854775807 then (if (a1 ++ t213).size + a2.size ≤ 9223372036854775807 then ((wire_TakeBool.f kj3 ((a1 ++ t213) ++ a2) (a1.size : Int)).bind fun bt221 => (if a1.size + t214.size ≤ 9223372036854775807 then (if (a1 ++ t214).size + a2.size ≤ 9223372036854775807 then ((wire_TakeText.f kj3 ((a1 ++ t214) ++ a2) (a1.size : Int) (a0_3.size : Int)).bind fun bt224 => ((wire_TakeCount.f kj3 ((a1 ++ t214) ++ a2) (a1.size : Int) 2000).bind fun bt227 => (if bt215.2.2 = 0 then (if bt218.2.2 = 0 then (if bt221.2.2 = 0 then (if bt224.2.2 = 0 then (if bt227.2.2 = 0 then (if bt215.1 = a0_0 then (if bt215.2.1 = (wrap64 ((a1.size : Int) + (t211.size : Int))) then (if bt218.1 = a0_1 then (if bt218.2.1 = (wrap64 ((a1.size : Int) + (t212.size : Int))) then (if (bt221.1 == a0_2) = true then (if bt221.2.1 = (wrap64 ((a1.size : Int) + (t213.size : Int))) then (if bt224.1.toList = a0_3.toList then (if bt224.2.1 = (wrap64 ((a1.size : Int) + (t214.size : Int))) then (if bt227.1 = (a0_3.size : Int) then (if bt227.2.1 = (wrap64 (bt224.2.1 - (a0_3.size : Int))) then ((skirmishlaw04_awake.f kj3).bind fun t230 => (some t230)) else (some false)) else (some false)) else (some false)) else (some false)) else (some false)) else (some false)) else (some false)) else (some false)) else (some false)) else (some false)) else (some false)) else (some false)) else (some false)) else (some false)) else (some false)))) else (none)) else (none))) else (none)) else (none))) else (none)) else (none))) else (none)) else (none)))) = some r := H
        have A15 := Aside0.mk A150
        clear A150
        replace H := Option.bind_eq_some_iff.mp H
        obtain ⟨t213, A160, H⟩ := H
        replace H : ((wire_Text.f kj3 a0_3).bind fun t214 => (if a1.size + t211.size ≤ 9223372036854775807 then (if (a1 ++ t211).size + a2.size ≤ 9223372036854775807 then ((wire_TakeUint.f kj3 ((a1 ++ t211) ++ a2) (a1.size : Int)).bind fun bt215 => (if a1.size + t212.size ≤ 9223372036854775807 then (if (a1 ++ t212).size + a2.size ≤ 9223372036854775807 then ((wire_TakeInt.f kj3 ((a1 ++ t212) ++ a2) (a1.size : Int)).bind fun bt218 => (if a1.size + t213.size ≤ 9223372036854775807 then (if (a1 ++ t213).size + a2.size ≤ 9223372036854775807 then ((wire_TakeBool.f kj3 ((a1 ++ t213) ++ a2) (a1.size : Int)).bind fun bt221 => (if a1.size + t214.size ≤ 9223372036854775807 then (if (a1 ++ t214).size + a2.size ≤ 9223372036854775807 then ((wire_TakeText.f kj3 ((a1 ++ t214) ++ a2) (a1.size : Int) (a0_3.size : Int)).bind fun bt224 => ((wire_TakeCount.f kj3 ((a1 ++ t214) ++ a2) (a1.size : Int) 2000).bind fun bt227 => (if bt215.2.2 = 0 then (if bt218.2.2 = 0 then (if bt221.2.2 = 0 then (if bt224.2.2 = 0 then (if bt227.2.2 = 0 then (if bt215.1 = a0_0 then (if bt215.2.1 = (wrap64 ((a1.size : Int) + (t211.size : Int))) then (if bt218.1 = a0_1 then (if bt218.2.1 = (wrap64 ((a1.size : Int) + (t212.size : Int))) then (if (bt221.1 == a0_2) = true then (if bt221.2.1 = (wrap64 ((a1.size : Int) + (t213.size : Int))) then (if bt224.1.toList = a0_3.toList then (if bt224.2.1 = (wrap64 ((a1.size : Int) + (t214.size : Int))) then (if bt227.1 = (a0_3.size : Int) then (if bt227.2.1 = (wrap64 (bt224.2.1 - (a0_3.size : Int))) then ((skirmishlaw04_awake.f kj3).bind fun t230 => (some t230)) else (some false)) else (some false)) else (some false)) else (some false)) else (some false)) else (some false)) else (some false)) else (some false)) else (some false)) else (some false)) else (some false)) else (some false)) else (some false)) else (some false)) else (some false)))) else (none)) else (none))) else (none)) else (none))) else (none)) else (none))) else (none)) else (none))) = some r := H
        have A16 := Aside0.mk A160
        clear A160
        replace H := Option.bind_eq_some_iff.mp H
        obtain ⟨t214, A170, H⟩ := H
        replace H : (if a1.size + t211.size ≤ 9223372036854775807 then (if (a1 ++ t211).size + a2.size ≤ 9223372036854775807 then ((wire_TakeUint.f kj3 ((a1 ++ t211) ++ a2) (a1.size : Int)).bind fun bt215 => (if a1.size + t212.size ≤ 9223372036854775807 then (if (a1 ++ t212).size + a2.size ≤ 9223372036854775807 then ((wire_TakeInt.f kj3 ((a1 ++ t212) ++ a2) (a1.size : Int)).bind fun bt218 => (if a1.size + t213.size ≤ 9223372036854775807 then (if (a1 ++ t213).size + a2.size ≤ 9223372036854775807 then ((wire_TakeBool.f kj3 ((a1 ++ t213) ++ a2) (a1.size : Int)).bind fun bt221 => (if a1.size + t214.size ≤ 9223372036854775807 then (if (a1 ++ t214).size + a2.size ≤ 9223372036854775807 then ((wire_TakeText.f kj3 ((a1 ++ t214) ++ a2) (a1.size : Int) (a0_3.size : Int)).bind fun bt224 => ((wire_TakeCount.f kj3 ((a1 ++ t214) ++ a2) (a1.size : Int) 2000).bind fun bt227 => (if bt215.2.2 = 0 then (if bt218.2.2 = 0 then (if bt221.2.2 = 0 then (if bt224.2.2 = 0 then (if bt227.2.2 = 0 then (if bt215.1 = a0_0 then (if bt215.2.1 = (wrap64 ((a1.size : Int) + (t211.size : Int))) then (if bt218.1 = a0_1 then (if bt218.2.1 = (wrap64 ((a1.size : Int) + (t212.size : Int))) then (if (bt221.1 == a0_2) = true then (if bt221.2.1 = (wrap64 ((a1.size : Int) + (t213.size : Int))) then (if bt224.1.toList = a0_3.toList then (if bt224.2.1 = (wrap64 ((a1.size : Int) + (t214.size : Int))) then (if bt227.1 = (a0_3.size : Int) then (if bt227.2.1 = (wrap64 (bt224.2.1 - (a0_3.size : Int))) then ((skirmishlaw04_awake.f kj3).bind fun t230 => (some t230)) else (some false)) else (some false)) else (some false)) else (some false)) else (some false)) else (some false)) else (some false)) else (some false)) else (some false)) else (some false)) else (some false)) else (some false)) else (some false)) else (some false)) else (some false)))) else (none)) else (none))) else (none)) else (none))) else (none)) else (none))) else (none)) else (none)) = some r := H
        have A17 := Aside0.mk A170
        clear A170
        by_cases c18 : a1.size + t211.size ≤ 9223372036854775807
        · rw [if_pos c18] at H
          have c18b0 := eq_true c18
          have c18b1 : decide (a1.size + t211.size ≤ 9223372036854775807) = true := decide_eq_true c18
          try have c18b2 : (9223372036854775807 < a1.size + t211.size) = False := eq_false (Nat.not_lt.2 c18)
          by_cases c19 : (a1 ++ t211).size + a2.size ≤ 9223372036854775807
          · rw [if_pos c19] at H
            have c19b0 := eq_true c19
            have c19b1 : decide ((a1 ++ t211).size + a2.size ≤ 9223372036854775807) = true := decide_eq_true c19
            try have c19b2 : (9223372036854775807 < (a1 ++ t211).size + a2.size) = False := eq_false (Nat.not_lt.2 c19)
            replace H := Option.bind_eq_some_iff.mp H
            obtain ⟨⟨t215, t216, t217⟩, A200, H⟩ := H
            replace H : (if a1.size + t212.size ≤ 9223372036854775807 then (if (a1 ++ t212).size + a2.size ≤ 9223372036854775807 then ((wire_TakeInt.f kj3 ((a1 ++ t212) ++ a2) (a1.size : Int)).bind fun bt218 => (if a1.size + t213.size ≤ 9223372036854775807 then (if (a1 ++ t213).size + a2.size ≤ 9223372036854775807 then ((wire_TakeBool.f kj3 ((a1 ++ t213) ++ a2) (a1.size : Int)).bind fun bt221 => (if a1.size + t214.size ≤ 9223372036854775807 then (if (a1 ++ t214).size + a2.size ≤ 9223372036854775807 then ((wire_TakeText.f kj3 ((a1 ++ t214) ++ a2) (a1.size : Int) (a0_3.size : Int)).bind fun bt224 => ((wire_TakeCount.f kj3 ((a1 ++ t214) ++ a2) (a1.size : Int) 2000).bind fun bt227 => (if t217 = 0 then (if bt218.2.2 = 0 then (if bt221.2.2 = 0 then (if bt224.2.2 = 0 then (if bt227.2.2 = 0 then (if t215 = a0_0 then (if t216 = (wrap64 ((a1.size : Int) + (t211.size : Int))) then (if bt218.1 = a0_1 then (if bt218.2.1 = (wrap64 ((a1.size : Int) + (t212.size : Int))) then (if (bt221.1 == a0_2) = true then (if bt221.2.1 = (wrap64 ((a1.size : Int) + (t213.size : Int))) then (if bt224.1.toList = a0_3.toList then (if bt224.2.1 = (wrap64 ((a1.size : Int) + (t214.size : Int))) then (if bt227.1 = (a0_3.size : Int) then (if bt227.2.1 = (wrap64 (bt224.2.1 - (a0_3.size : Int))) then ((skirmishlaw04_awake.f kj3).bind fun t230 => (some t230)) else (some false)) else (some false)) else (some false)) else (some false)) else (some false)) else (some false)) else (some false)) else (some false)) else (some false)) else (some false)) else (some false)) else (some false)) else (some false)) else (some false)) else (some false)))) else (none)) else (none))) else (none)) else (none))) else (none)) else (none)) = some r := H
            have A20 := Aside0.mk A200
            clear A200
            by_cases c21 : a1.size + t212.size ≤ 9223372036854775807
            · rw [if_pos c21] at H
              have c21b0 := eq_true c21
              have c21b1 : decide (a1.size + t212.size ≤ 9223372036854775807) = true := decide_eq_true c21
              try have c21b2 : (9223372036854775807 < a1.size + t212.size) = False := eq_false (Nat.not_lt.2 c21)
              by_cases c22 : (a1 ++ t212).size + a2.size ≤ 9223372036854775807
              · rw [if_pos c22] at H
                have c22b0 := eq_true c22
                have c22b1 : decide ((a1 ++ t212).size + a2.size ≤ 9223372036854775807) = true := decide_eq_true c22
                try have c22b2 : (9223372036854775807 < (a1 ++ t212).size + a2.size) = False := eq_false (Nat.not_lt.2 c22)
                replace H := Option.bind_eq_some_iff.mp H
                obtain ⟨⟨t218, t219, t220⟩, A230, H⟩ := H
                replace H : (if a1.size + t213.size ≤ 9223372036854775807 then (if (a1 ++ t213).size + a2.size ≤ 9223372036854775807 then ((wire_TakeBool.f kj3 ((a1 ++ t213) ++ a2) (a1.size : Int)).bind fun bt221 => (if a1.size + t214.size ≤ 9223372036854775807 then (if (a1 ++ t214).size + a2.size ≤ 9223372036854775807 then ((wire_TakeText.f kj3 ((a1 ++ t214) ++ a2) (a1.size : Int) (a0_3.size : Int)).bind fun bt224 => ((wire_TakeCount.f kj3 ((a1 ++ t214) ++ a2) (a1.size : Int) 2000).bind fun bt227 => (if t217 = 0 then (if t220 = 0 then (if bt221.2.2 = 0 then (if bt224.2.2 = 0 then (if bt227.2.2 = 0 then (if t215 = a0_0 then (if t216 = (wrap64 ((a1.size : Int) + (t211.size : Int))) then (if t218 = a0_1 then (if t219 = (wrap64 ((a1.size : Int) + (t212.size : Int))) then (if (bt221.1 == a0_2) = true then (if bt221.2.1 = (wrap64 ((a1.size : Int) + (t213.size : Int))) then (if bt224.1.toList = a0_3.toList then (if bt224.2.1 = (wrap64 ((a1.size : Int) + (t214.size : Int))) then (if bt227.1 = (a0_3.size : Int) then (if bt227.2.1 = (wrap64 (bt224.2.1 - (a0_3.size : Int))) then ((skirmishlaw04_awake.f kj3).bind fun t230 => (some t230)) else (some false)) else (some false)) else (some false)) else (some false)) else (some false)) else (some false)) else (some false)) else (some false)) else (some false)) else (some false)) else (some false)) else (some false)) else (some false)) else (some false)) else (some false)))) else (none)) else (none))) else (none)) else (none)) = some r := H
                have A23 := Aside0.mk A230
                clear A230
                by_cases c24 : a1.size + t213.size ≤ 9223372036854775807
                · rw [if_pos c24] at H
                  have c24b0 := eq_true c24
                  have c24b1 : decide (a1.size + t213.size ≤ 9223372036854775807) = true := decide_eq_true c24
                  try have c24b2 : (9223372036854775807 < a1.size + t213.size) = False := eq_false (Nat.not_lt.2 c24)
                  by_cases c25 : (a1 ++ t213).size + a2.size ≤ 9223372036854775807
                  · rw [if_pos c25] at H
                    have c25b0 := eq_true c25
                    have c25b1 : decide ((a1 ++ t213).size + a2.size ≤ 9223372036854775807) = true := decide_eq_true c25
                    try have c25b2 : (9223372036854775807 < (a1 ++ t213).size + a2.size) = False := eq_false (Nat.not_lt.2 c25)
                    replace H := Option.bind_eq_some_iff.mp H
                    obtain ⟨⟨t221, t222, t223⟩, A260, H⟩ := H
                    replace H : (if a1.size + t214.size ≤ 9223372036854775807 then (if (a1 ++ t214).size + a2.size ≤ 9223372036854775807 then ((wire_TakeText.f kj3 ((a1 ++ t214) ++ a2) (a1.size : Int) (a0_3.size : Int)).bind fun bt224 => ((wire_TakeCount.f kj3 ((a1 ++ t214) ++ a2) (a1.size : Int) 2000).bind fun bt227 => (if t217 = 0 then (if t220 = 0 then (if t223 = 0 then (if bt224.2.2 = 0 then (if bt227.2.2 = 0 then (if t215 = a0_0 then (if t216 = (wrap64 ((a1.size : Int) + (t211.size : Int))) then (if t218 = a0_1 then (if t219 = (wrap64 ((a1.size : Int) + (t212.size : Int))) then (if (t221 == a0_2) = true then (if t222 = (wrap64 ((a1.size : Int) + (t213.size : Int))) then (if bt224.1.toList = a0_3.toList then (if bt224.2.1 = (wrap64 ((a1.size : Int) + (t214.size : Int))) then (if bt227.1 = (a0_3.size : Int) then (if bt227.2.1 = (wrap64 (bt224.2.1 - (a0_3.size : Int))) then ((skirmishlaw04_awake.f kj3).bind fun t230 => (some t230)) else (some false)) else (some false)) else (some false)) else (some false)) else (some false)) else (some false)) else (some false)) else (some false)) else (some false)) else (some false)) else (some false)) else (some false)) else (some false)) else (some false)) else (some false)))) else (none)) else (none)) = some r := H
                    have A26 := Aside0.mk A260
                    clear A260
                    by_cases c27 : a1.size + t214.size ≤ 9223372036854775807
                    · rw [if_pos c27] at H
                      have c27b0 := eq_true c27
                      have c27b1 : decide (a1.size + t214.size ≤ 9223372036854775807) = true := decide_eq_true c27
                      try have c27b2 : (9223372036854775807 < a1.size + t214.size) = False := eq_false (Nat.not_lt.2 c27)
                      by_cases c28 : (a1 ++ t214).size + a2.size ≤ 9223372036854775807
                      · rw [if_pos c28] at H
                        have c28b0 := eq_true c28
                        have c28b1 : decide ((a1 ++ t214).size + a2.size ≤ 9223372036854775807) = true := decide_eq_true c28
                        try have c28b2 : (9223372036854775807 < (a1 ++ t214).size + a2.size) = False := eq_false (Nat.not_lt.2 c28)
                        replace H := Option.bind_eq_some_iff.mp H
                        obtain ⟨⟨t224, t225, t226⟩, A290, H⟩ := H
                        replace H : ((wire_TakeCount.f kj3 ((a1 ++ t214) ++ a2) (a1.size : Int) 2000).bind fun bt227 => (if t217 = 0 then (if t220 = 0 then (if t223 = 0 then (if t226 = 0 then (if bt227.2.2 = 0 then (if t215 = a0_0 then (if t216 = (wrap64 ((a1.size : Int) + (t211.size : Int))) then (if t218 = a0_1 then (if t219 = (wrap64 ((a1.size : Int) + (t212.size : Int))) then (if (t221 == a0_2) = true then (if t222 = (wrap64 ((a1.size : Int) + (t213.size : Int))) then (if t224.toList = a0_3.toList then (if t225 = (wrap64 ((a1.size : Int) + (t214.size : Int))) then (if bt227.1 = (a0_3.size : Int) then (if bt227.2.1 = (wrap64 (t225 - (a0_3.size : Int))) then ((skirmishlaw04_awake.f kj3).bind fun t230 => (some t230)) else (some false)) else (some false)) else (some false)) else (some false)) else (some false)) else (some false)) else (some false)) else (some false)) else (some false)) else (some false)) else (some false)) else (some false)) else (some false)) else (some false)) else (some false))) = some r := H
                        have A29 := Aside0.mk A290
                        clear A290
                        replace H := Option.bind_eq_some_iff.mp H
                        obtain ⟨⟨t227, t228, t229⟩, A300, H⟩ := H
                        replace H : (if t217 = 0 then (if t220 = 0 then (if t223 = 0 then (if t226 = 0 then (if t229 = 0 then (if t215 = a0_0 then (if t216 = (wrap64 ((a1.size : Int) + (t211.size : Int))) then (if t218 = a0_1 then (if t219 = (wrap64 ((a1.size : Int) + (t212.size : Int))) then (if (t221 == a0_2) = true then (if t222 = (wrap64 ((a1.size : Int) + (t213.size : Int))) then (if t224.toList = a0_3.toList then (if t225 = (wrap64 ((a1.size : Int) + (t214.size : Int))) then (if t227 = (a0_3.size : Int) then (if t228 = (wrap64 (t225 - (a0_3.size : Int))) then ((skirmishlaw04_awake.f kj3).bind fun t230 => (some t230)) else (some false)) else (some false)) else (some false)) else (some false)) else (some false)) else (some false)) else (some false)) else (some false)) else (some false)) else (some false)) else (some false)) else (some false)) else (some false)) else (some false)) else (some false)) = some r := H
                        have A30 := Aside0.mk A300
                        clear A300
                        by_cases c31 : t217 = 0
                        · rw [if_pos c31] at H
                          have c31b0 : (t217 == 0) = true := beq_iff_eq.mpr c31
                          have c31b1 : (t217 != 0) = false := bne_eq_false_iff_eq.mpr c31
                          clear c31
                          by_cases c32 : t220 = 0
                          · rw [if_pos c32] at H
                            have c32b0 : (t220 == 0) = true := beq_iff_eq.mpr c32
                            have c32b1 : (t220 != 0) = false := bne_eq_false_iff_eq.mpr c32
                            clear c32
                            by_cases c33 : t223 = 0
                            · rw [if_pos c33] at H
                              have c33b0 : (t223 == 0) = true := beq_iff_eq.mpr c33
                              have c33b1 : (t223 != 0) = false := bne_eq_false_iff_eq.mpr c33
                              clear c33
                              by_cases c34 : t226 = 0
                              · rw [if_pos c34] at H
                                have c34b0 : (t226 == 0) = true := beq_iff_eq.mpr c34
                                have c34b1 : (t226 != 0) = false := bne_eq_false_iff_eq.mpr c34
                                clear c34
                                by_cases c35 : t229 = 0
                                · rw [if_pos c35] at H
                                  have c35b0 : (t229 == 0) = true := beq_iff_eq.mpr c35
                                  have c35b1 : (t229 != 0) = false := bne_eq_false_iff_eq.mpr c35
                                  clear c35
                                  by_cases c36 : t215 = a0_0
                                  · rw [if_pos c36] at H
                                    have c36b0 : (t215 == a0_0) = true := beq_iff_eq.mpr c36
                                    have c36b1 : (t215 != a0_0) = false := bne_eq_false_iff_eq.mpr c36
                                    clear c36
                                    by_cases c37 : t216 = (wrap64 ((a1.size : Int) + (t211.size : Int)))
                                    · rw [if_pos c37] at H
                                      have c37b0 : (t216 == (wrap64 ((a1.size : Int) + (t211.size : Int)))) = true := beq_iff_eq.mpr c37
                                      have c37b1 : (t216 != (wrap64 ((a1.size : Int) + (t211.size : Int)))) = false := bne_eq_false_iff_eq.mpr c37
                                      have c37e : (wrap64 ((a1.size : Int) + (t211.size : Int))) = ((a1.size : Int) + (t211.size : Int)) := by unfold wrap64; omega
                                      rw [c37e] at c37b0 c37b1
                                      clear c37e
                                      clear c37
                                      by_cases c38 : t218 = a0_1
                                      · rw [if_pos c38] at H
                                        have c38b0 : (t218 == a0_1) = true := beq_iff_eq.mpr c38
                                        have c38b1 : (t218 != a0_1) = false := bne_eq_false_iff_eq.mpr c38
                                        clear c38
                                        by_cases c39 : t219 = (wrap64 ((a1.size : Int) + (t212.size : Int)))
                                        · rw [if_pos c39] at H
                                          have c39b0 : (t219 == (wrap64 ((a1.size : Int) + (t212.size : Int)))) = true := beq_iff_eq.mpr c39
                                          have c39b1 : (t219 != (wrap64 ((a1.size : Int) + (t212.size : Int)))) = false := bne_eq_false_iff_eq.mpr c39
                                          have c39e : (wrap64 ((a1.size : Int) + (t212.size : Int))) = ((a1.size : Int) + (t212.size : Int)) := by unfold wrap64; omega
                                          rw [c39e] at c39b0 c39b1
                                          clear c39e
                                          clear c39
                                          by_cases c40 : (t221 == a0_2) = true
                                          · rw [if_pos c40] at H
                                            have c40b0 : (t221 == a0_2) = true := c40
                                            (try (have c40b1 : decide (t221 = a0_2) = true := by simpa using c40))
                                            (try (have c40b2 : (t221 == a0_2) = true := by simpa using c40))
                                            clear c40
                                            by_cases c41 : t222 = (wrap64 ((a1.size : Int) + (t213.size : Int)))
                                            · rw [if_pos c41] at H
                                              have c41b0 : (t222 == (wrap64 ((a1.size : Int) + (t213.size : Int)))) = true := beq_iff_eq.mpr c41
                                              have c41b1 : (t222 != (wrap64 ((a1.size : Int) + (t213.size : Int)))) = false := bne_eq_false_iff_eq.mpr c41
                                              have c41e : (wrap64 ((a1.size : Int) + (t213.size : Int))) = ((a1.size : Int) + (t213.size : Int)) := by unfold wrap64; omega
                                              rw [c41e] at c41b0 c41b1
                                              clear c41e
                                              clear c41
                                              by_cases c42 : t224.toList = a0_3.toList
                                              · rw [if_pos c42] at H
                                                have c42b0 : (t224.toList == a0_3.toList) = true := beq_iff_eq.mpr c42
                                                have c42b1 : (t224.toList != a0_3.toList) = false := bne_eq_false_iff_eq.mpr c42
                                                clear c42
                                                by_cases c43 : t225 = (wrap64 ((a1.size : Int) + (t214.size : Int)))
                                                · rw [if_pos c43] at H
                                                  have c43b0 : (t225 == (wrap64 ((a1.size : Int) + (t214.size : Int)))) = true := beq_iff_eq.mpr c43
                                                  have c43b1 : (t225 != (wrap64 ((a1.size : Int) + (t214.size : Int)))) = false := bne_eq_false_iff_eq.mpr c43
                                                  have c43e : (wrap64 ((a1.size : Int) + (t214.size : Int))) = ((a1.size : Int) + (t214.size : Int)) := by unfold wrap64; omega
                                                  rw [c43e] at c43b0 c43b1
                                                  clear c43e
                                                  clear c43
                                                  by_cases c44 : t227 = (a0_3.size : Int)
                                                  · rw [if_pos c44] at H
                                                    have c44b0 : (t227 == (a0_3.size : Int)) = true := beq_iff_eq.mpr c44
                                                    have c44b1 : (t227 != (a0_3.size : Int)) = false := bne_eq_false_iff_eq.mpr c44
                                                    clear c44
                                                    by_cases c45 : t228 = (wrap64 (t225 - (a0_3.size : Int)))
                                                    · rw [if_pos c45] at H
                                                      have c45b0 : (t228 == (wrap64 (t225 - (a0_3.size : Int)))) = true := beq_iff_eq.mpr c45
                                                      have c45b1 : (t228 != (wrap64 (t225 - (a0_3.size : Int)))) = false := bne_eq_false_iff_eq.mpr c45
                                                      clear c45
                                                      replace H := Option.bind_eq_some_iff.mp H
                                                      obtain ⟨t230, A460, H⟩ := H
                                                      replace H : (some t230) = some r := H
                                                      have A46 := Aside0.mk A460
                                                      clear A460
                                                      obtain rfl := Option.some.inj H
                                                      try go_wp2
                                                      have n0_ := Aside0.mk (blk_drew BK209.out)
                                                      have n1_ := Aside0.mk (below_drew1 HB.out)
                                                      clear BK209
                                                      clear HB
                                                      have BK209 := n0_
                                                      have HB := n1_
                                                      clear n0_ n1_
                                                      refine start_ (n := 16) (S := fun w' => w'.cell? ⟨gb209, 0, none⟩ = some (.int .u64 a0_0) ∧ w'.cell? ⟨gb209, 1, none⟩ = some (.int .i64 a0_1) ∧ w'.cell? ⟨gb209, 2, none⟩ = some (.bool a0_2) ∧ w'.cell? ⟨gb209, 3, none⟩ = some (.string a0_3)) (ds := []) #[false, false, false, false, false, false, false, false, false, false, false, false, false, false, false, false] (by kernel_rfl) rfl rfl ⟨(blk_cell BK209.out 0).trans rfl, (blk_cell BK209.out 1).trans rfl, (blk_cell BK209.out 2).trans rfl, (blk_cell BK209.out 3).trans rfl⟩ (fun hHeld => ?_); refine with_tabW skirmishlaw04_WireRoundTrips.tab4 skirmishlaw04_WireRoundTrips.bits4 (fun HT_ HW_ => ?_)
                                                      generalize wc.drew = w47 at BK209 HB hHeld ⊢
                                                      refine pure_ (i := 0) (N := some 44) (v := ?_) (a' := ?_) #[true, false, false, false, false, false, false, false, false, false, false, false, false, false, false, false] rfl rfl (any_of HT_.out (by kernel_rfl)) (fun _ _ _ h => h) (Or.inl ⟨by rfl, ?_⟩) ?_ ?_
                                                      rotate_left
                                                      · intro w'
                                                        go_simp
                                                        with_reducible rfl
                                                      rotate_left
                                                      · simp only [Act.put, List.setIfInBounds_toArray, List.set_cons_zero, List.set_cons_succ, i64_w, i32_w]
                                                        rfl
                                                      refine pure_ (i := 3) (N := some 47) (v := ?_) (a' := ?_) #[true, false, false, true, false, false, false, false, false, false, false, false, false, false, false, false] rfl rfl (any_of HT_.out (by kernel_rfl)) (fun _ _ _ h => h) (Or.inl ⟨by rfl, ?_⟩) ?_ ?_
                                                      rotate_left
                                                      · intro w'
                                                        go_simp
                                                        with_reducible rfl
                                                      rotate_left
                                                      · simp only [Act.put, List.setIfInBounds_toArray, List.set_cons_zero, List.set_cons_succ, i64_w, i32_w]
                                                        rfl
                                                      refine pure_ (i := 6) (N := some 50) (v := ?_) (a' := ?_) #[true, false, false, true, false, false, true, false, false, false, false, false, false, false, false, false] rfl rfl (any_of HT_.out (by kernel_rfl)) (fun _ _ _ h => h) (Or.inl ⟨by rfl, ?_⟩) ?_ ?_
                                                      rotate_left
                                                      · intro w'
                                                        go_simp
                                                        with_reducible rfl
                                                      rotate_left
                                                      · simp only [Act.put, List.setIfInBounds_toArray, List.set_cons_zero, List.set_cons_succ, i64_w, i32_w]
                                                        rfl
                                                      refine pure_ (i := 9) (N := some 53) (v := ?_) (a' := ?_) #[true, false, false, true, false, false, true, false, false, true, false, false, false, false, false, false] rfl rfl (any_of HT_.out (by kernel_rfl)) (fun _ _ _ h => h) (Or.inl ⟨by rfl, ?_⟩) ?_ ?_
                                                      rotate_left
                                                      · intro w'
                                                        go_simp
                                                        with_reducible rfl
                                                      rotate_left
                                                      · simp only [Act.put, List.setIfInBounds_toArray, List.set_cons_zero, List.set_cons_succ, i64_w, i32_w]
                                                        rfl
                                                      refine take_ (i := 1) (N := some 45) (v := ?_) (a' := ?_) #[true, true, false, true, false, false, true, false, false, true, false, false, false, false, false, false] rfl rfl (take_ofW HT_.out HW_.out (by kernel_rfl)) (fun _ _ _ h => h) (Or.inl ⟨by rfl, ?_⟩) hHeld ?_ ?_
                                                      rotate_left
                                                      · rintro w' ⟨s0, s1, s2, s3⟩
                                                        go_simp
                                                        with_reducible rfl
                                                      rotate_left
                                                      · simp only [Act.put, List.setIfInBounds_toArray, List.set_cons_zero, List.set_cons_succ, i64_w, i32_w]
                                                        rfl
                                                      refine take_ (i := 4) (N := some 48) (v := ?_) (a' := ?_) #[true, true, false, true, true, false, true, false, false, true, false, false, false, false, false, false] rfl rfl (take_ofW HT_.out HW_.out (by kernel_rfl)) (fun _ _ _ h => h) (Or.inl ⟨by rfl, ?_⟩) hHeld ?_ ?_
                                                      rotate_left
                                                      · rintro w' ⟨s0, s1, s2, s3⟩
                                                        go_simp
                                                        with_reducible rfl
                                                      rotate_left
                                                      · simp only [Act.put, List.setIfInBounds_toArray, List.set_cons_zero, List.set_cons_succ, i64_w, i32_w]
                                                        rfl
                                                      refine take_ (i := 7) (N := some 51) (v := ?_) (a' := ?_) #[true, true, false, true, true, false, true, true, false, true, false, false, false, false, false, false] rfl rfl (take_ofW HT_.out HW_.out (by kernel_rfl)) (fun _ _ _ h => h) (Or.inl ⟨by rfl, ?_⟩) hHeld ?_ ?_
                                                      rotate_left
                                                      · rintro w' ⟨s0, s1, s2, s3⟩
                                                        go_simp
                                                        with_reducible rfl
                                                      rotate_left
                                                      · simp only [Act.put, List.setIfInBounds_toArray, List.set_cons_zero, List.set_cons_succ, i64_w, i32_w]
                                                        rfl
                                                      refine take_ (i := 10) (N := some 54) (v := ?_) (a' := ?_) #[true, true, false, true, true, false, true, true, false, true, true, false, false, false, false, false] rfl rfl (take_ofW HT_.out HW_.out (by kernel_rfl)) (fun _ _ _ h => h) (Or.inl ⟨by rfl, ?_⟩) hHeld ?_ ?_
                                                      rotate_left
                                                      · rintro w' ⟨s0, s1, s2, s3⟩
                                                        go_simp
                                                        with_reducible rfl
                                                      rotate_left
                                                      · simp only [Act.put, List.setIfInBounds_toArray, List.set_cons_zero, List.set_cons_succ, i64_w, i32_w]
                                                        rfl
                                                      refine one_ (i := 2) (N := some 46) #[true, true, true, true, true, false, true, true, false, true, true, false, false, false, false, false] rfl rfl (one_of HT_.out (by kernel_rfl)) (by decide) (fun K hK => ?_)
                                                      refine goes_ Try.func12 (by kernel_rfl) rfl #[.int .u64 a0_0] (by rfl) rfl rfl (by (try simp only [List.map_toArray, List.map_cons, List.map_nil]); first | done | rfl | (simp only [List.length_drop, List.length_take]; rfl)) ?_
                                                      with_reducible refine (wire_Uint.calls kj3 a0_0 t211 _ A14.out).mono ?_
                                                      rintro e w48 ⟨rfl, hb⟩
                                                      refine ⟨_, rfl, ?_⟩
                                                      have n0_ := Aside0.mk (blk_below (g := gb209) (o := .cells #[.int .u64 a0_0, .int .i64 a0_1, .bool a0_2, .string a0_3] 39 (0, 0)) (by (with_reducible repeat (first | refine blk_drewN ?_ _ | refine blk_drew ?_ | refine blk_alloc ?_ _)); exact BK209.out) hb)
                                                      have n1_ := Aside0.mk (below_step (by repeat (first | (with_reducible first | exact HB.out | apply below_alloc | apply pw_below_drewN | apply below_drew1 | refine below_set ?_ GE209.out) | exact HB.out)) hb)
                                                      clear BK209
                                                      clear HB
                                                      have BK209 := n0_
                                                      have HB := n1_
                                                      clear n0_ n1_
                                                      (try clear hb)
                                                      (try clear hb2)
                                                      (try clear hk)
                                                      (try clear hi)
                                                      refine hK.out _ _ ⟨(blk_cell BK209.out 0).trans rfl, (blk_cell BK209.out 1).trans rfl, (blk_cell BK209.out 2).trans rfl, (blk_cell BK209.out 3).trans rfl⟩ (fun hHeld => ?_)
                                                      clear hK K
                                                      refine norm_ (a' := ?_) ?_ ?_
                                                      rotate_left
                                                      · show Act.put _ (some 46) _ = _
                                                        simp only [Act.put, List.setIfInBounds_toArray, List.set_cons_zero, List.set_cons_succ, i64_w, i32_w]
                                                        rfl
                                                      refine one_ (i := 5) (N := some 49) #[true, true, true, true, true, true, true, true, false, true, true, false, false, false, false, false] rfl rfl (one_of HT_.out (by kernel_rfl)) (by decide) (fun K hK => ?_)
                                                      refine goes_ Try.func16 (by kernel_rfl) rfl #[.int .i64 a0_1] (by rfl) rfl rfl (by (try simp only [List.map_toArray, List.map_cons, List.map_nil]); first | done | rfl | (simp only [List.length_drop, List.length_take]; rfl)) ?_
                                                      with_reducible refine (wire_Int.calls kj3 a0_1 t212 _ A15.out).mono ?_
                                                      rintro e w49 ⟨rfl, hb⟩
                                                      refine ⟨_, rfl, ?_⟩
                                                      have n0_ := Aside0.mk (blk_below (g := gb209) (o := .cells #[.int .u64 a0_0, .int .i64 a0_1, .bool a0_2, .string a0_3] 39 (0, 0)) (by (with_reducible repeat (first | refine blk_drewN ?_ _ | refine blk_drew ?_ | refine blk_alloc ?_ _)); exact BK209.out) hb)
                                                      have n1_ := Aside0.mk (below_step (by repeat (first | (with_reducible first | exact HB.out | apply below_alloc | apply pw_below_drewN | apply below_drew1 | refine below_set ?_ GE209.out) | exact HB.out)) hb)
                                                      clear BK209
                                                      clear HB
                                                      have BK209 := n0_
                                                      have HB := n1_
                                                      clear n0_ n1_
                                                      (try clear hb)
                                                      (try clear hb2)
                                                      (try clear hk)
                                                      (try clear hi)
                                                      refine hK.out _ _ ⟨(blk_cell BK209.out 0).trans rfl, (blk_cell BK209.out 1).trans rfl, (blk_cell BK209.out 2).trans rfl, (blk_cell BK209.out 3).trans rfl⟩ (fun hHeld => ?_)
                                                      clear hK K
                                                      refine norm_ (a' := ?_) ?_ ?_
                                                      rotate_left
                                                      · show Act.put _ (some 49) _ = _
                                                        simp only [Act.put, List.setIfInBounds_toArray, List.set_cons_zero, List.set_cons_succ, i64_w, i32_w]
                                                        rfl
                                                      refine one_ (i := 8) (N := some 52) #[true, true, true, true, true, true, true, true, true, true, true, false, false, false, false, false] rfl rfl (one_of HT_.out (by kernel_rfl)) (by decide) (fun K hK => ?_)
                                                      refine goes_ Try.func24 (by kernel_rfl) rfl #[.bool a0_2] (by rfl) rfl rfl (by (try simp only [List.map_toArray, List.map_cons, List.map_nil]); first | done | rfl | (simp only [List.length_drop, List.length_take]; rfl)) ?_
                                                      with_reducible refine (wire_Bool.calls a0_2 t213 _ A16.out).mono ?_
                                                      rintro e w' ⟨rfl, ⟨nd, rfl⟩⟩
                                                      refine ⟨_, rfl, ?_⟩
                                                      refine hK.out _ _ ⟨(blk_cell BK209.out 0).trans rfl, (blk_cell BK209.out 1).trans rfl, (blk_cell BK209.out 2).trans rfl, (blk_cell BK209.out 3).trans rfl⟩ (fun hHeld => ?_)
                                                      clear hK K
                                                      refine norm_ (a' := ?_) ?_ ?_
                                                      rotate_left
                                                      · show Act.put _ (some 52) _ = _
                                                        simp only [Act.put, List.setIfInBounds_toArray, List.set_cons_zero, List.set_cons_succ, i64_w, i32_w]
                                                        rfl
                                                      refine one_ (i := 11) (N := some 55) #[true, true, true, true, true, true, true, true, true, true, true, true, false, false, false, false] rfl rfl (one_of HT_.out (by kernel_rfl)) (by decide) (fun K hK => ?_)
                                                      refine goes_ Try.func22 (by kernel_rfl) rfl #[.string a0_3] (by rfl) rfl rfl (by (try simp only [List.map_toArray, List.map_cons, List.map_nil]); first | done | rfl | (simp only [List.length_drop, List.length_take]; rfl)) ?_
                                                      with_reducible refine (wire_Text.calls kj3 a0_3 t214 _ A17.out).mono ?_
                                                      rintro e w50 ⟨rfl, hb⟩
                                                      refine ⟨_, rfl, ?_⟩
                                                      have n0_ := Aside0.mk (blk_below (g := gb209) (o := .cells #[.int .u64 a0_0, .int .i64 a0_1, .bool a0_2, .string a0_3] 39 (0, 0)) (by (with_reducible repeat (first | refine blk_drewN ?_ _ | refine blk_drew ?_ | refine blk_alloc ?_ _)); exact BK209.out) hb)
                                                      have n1_ := Aside0.mk (below_step (by repeat (first | (with_reducible first | exact HB.out | apply below_alloc | apply pw_below_drewN | apply below_drew1 | refine below_set ?_ GE209.out) | exact HB.out)) hb)
                                                      clear BK209
                                                      clear HB
                                                      have BK209 := n0_
                                                      have HB := n1_
                                                      clear n0_ n1_
                                                      (try clear hb)
                                                      (try clear hb2)
                                                      (try clear hk)
                                                      (try clear hi)
                                                      refine hK.out _ _ ⟨(blk_cell BK209.out 0).trans rfl, (blk_cell BK209.out 1).trans rfl, (blk_cell BK209.out 2).trans rfl, (blk_cell BK209.out 3).trans rfl⟩ (fun hHeld => ?_)
                                                      clear hK K
                                                      refine norm_ (a' := ?_) ?_ ?_
                                                      rotate_left
                                                      · show Act.put _ (some 55) _ = _
                                                        simp only [Act.put, List.setIfInBounds_toArray, List.set_cons_zero, List.set_cons_succ, i64_w, i32_w]
                                                        rfl
                                                      refine pure_ (i := 12) (N := some 8) (v := ?_) (a' := ?_) #[true, true, true, true, true, true, true, true, true, true, true, true, true, false, false, false] rfl rfl (any_of HT_.out (by kernel_rfl)) (fun _ _ _ h => h) (Or.inl ⟨by rfl, ?_⟩) ?_ ?_
                                                      rotate_left
                                                      · intro w'
                                                        go_simp
                                                        with_reducible rfl
                                                      rotate_left
                                                      · simp only [Act.put, List.setIfInBounds_toArray, List.set_cons_zero, List.set_cons_succ, i64_w, i32_w]
                                                        rfl
                                                      refine pure_ (i := 13) (N := some 9) (v := ?_) (a' := ?_) #[true, true, true, true, true, true, true, true, true, true, true, true, true, true, false, false] rfl rfl (any_of HT_.out (by kernel_rfl)) (fun _ _ _ h => h) (Or.inl ⟨by rfl, ?_⟩) ?_ ?_
                                                      rotate_left
                                                      · intro w'
                                                        go_simp
                                                        with_reducible rfl
                                                      rotate_left
                                                      · simp only [Act.put, List.setIfInBounds_toArray, List.set_cons_zero, List.set_cons_succ, i64_w, i32_w]
                                                        rfl
                                                      refine pure_ (i := 14) (N := some 10) (v := ?_) (a' := ?_) #[true, true, true, true, true, true, true, true, true, true, true, true, true, true, true, false] rfl rfl (any_of HT_.out (by kernel_rfl)) (fun _ _ _ h => h) (Or.inl ⟨by rfl, ?_⟩) ?_ ?_
                                                      rotate_left
                                                      · intro w'
                                                        go_simp
                                                        with_reducible rfl
                                                      rotate_left
                                                      · simp only [Act.put, List.setIfInBounds_toArray, List.set_cons_zero, List.set_cons_succ, i64_w, i32_w]
                                                        rfl
                                                      refine pure_ (i := 15) (N := some 11) (v := ?_) (a' := ?_) #[true, true, true, true, true, true, true, true, true, true, true, true, true, true, true, true] rfl rfl (any_of HT_.out (by kernel_rfl)) (fun _ _ _ h => h) (Or.inl ⟨by rfl, ?_⟩) ?_ ?_
                                                      rotate_left
                                                      · intro w'
                                                        go_simp
                                                        with_reducible rfl
                                                      rotate_left
                                                      · simp only [Act.put, List.setIfInBounds_toArray, List.set_cons_zero, List.set_cons_succ, i64_w, i32_w]
                                                        rfl
                                                      refine done_ (done_of HT_.out (by kernel_rfl)) ?_
                                                      try go_wp2_with (first | ((with_reducible refine gate_callee (f := 10) rfl ?_); refine goesL_ (some 63) rfl rfl Try.func10 (by kernel_rfl) rfl #[.string ((a1 ++ t211) ++ a2), .int .i64 (a1.size : Int)] rfl (by (try simp only [List.map_toArray, List.map_cons, List.map_nil]); first | done | rfl | (simp only [List.length_drop, List.length_take]; rfl)) ?_; (with_reducible refine (wire_TakeUint.calls kj3 ((a1 ++ t211) ++ a2) (a1.size : Int) t215 t216 t217 _ A20.out).mono ?_); rintro e w' ⟨rfl, ⟨nd, rfl⟩⟩; refine ⟨_, rfl, ?_⟩) | ((with_reducible refine gate_callee (f := 14) rfl ?_); refine goesL_ (some 74) rfl rfl Try.func14 (by kernel_rfl) rfl #[.string ((a1 ++ t212) ++ a2), .int .i64 (a1.size : Int)] rfl (by (try simp only [List.map_toArray, List.map_cons, List.map_nil]); first | done | rfl | (simp only [List.length_drop, List.length_take]; rfl)) ?_; (with_reducible refine (wire_TakeInt.calls kj3 ((a1 ++ t212) ++ a2) (a1.size : Int) t218 t219 t220 _ A23.out).mono ?_); rintro e w' ⟨rfl, ⟨nd, rfl⟩⟩; refine ⟨_, rfl, ?_⟩) | ((with_reducible refine gate_callee (f := 25) rfl ?_); refine goesL_ (some 85) rfl rfl Try.func25 (by kernel_rfl) rfl #[.string ((a1 ++ t213) ++ a2), .int .i64 (a1.size : Int)] rfl (by (try simp only [List.map_toArray, List.map_cons, List.map_nil]); first | done | rfl | (simp only [List.length_drop, List.length_take]; rfl)) ?_; (with_reducible refine (wire_TakeBool.calls kj3 ((a1 ++ t213) ++ a2) (a1.size : Int) t221 t222 t223 _ A26.out).mono ?_); rintro e w' ⟨rfl, ⟨nd, rfl⟩⟩; refine ⟨_, rfl, ?_⟩; have hcz51_0 : w50.cell? ⟨gb209, 0, none⟩ = some (.int .u64 a0_0) := (blk_cell BK209.out 0).trans rfl; have hcz51_1 : w50.cell? ⟨gb209, 1, none⟩ = some (.int .i64 a0_1) := (blk_cell BK209.out 1).trans rfl; have hcz51_2 : w50.cell? ⟨gb209, 2, none⟩ = some (.bool a0_2) := (blk_cell BK209.out 2).trans rfl; have hcz51_3 : w50.cell? ⟨gb209, 3, none⟩ = some (.string a0_3) := (blk_cell BK209.out 3).trans rfl; have hfz51_0 := blk_frozen BK209.out 0; have hfz51_1 := blk_frozen BK209.out 1; have hfz51_2 := blk_frozen BK209.out 2; have hfz51_3 := blk_frozen BK209.out 3) | ((with_reducible refine gate_callee (f := 18) rfl ?_); refine goesL_ (some 99) rfl rfl Try.func18 (by kernel_rfl) rfl #[.string ((a1 ++ t214) ++ a2), .int .i64 (a1.size : Int), .int .i64 (a0_3.size : Int)] rfl (by (try simp only [List.map_toArray, List.map_cons, List.map_nil]); first | done | rfl | (simp only [List.length_drop, List.length_take]; rfl)) ?_; (with_reducible refine (wire_TakeText.calls kj3 ((a1 ++ t214) ++ a2) (a1.size : Int) (a0_3.size : Int) t224 t225 t226 _ A29.out).mono ?_); rintro e w52 ⟨rfl, hb⟩; refine ⟨_, rfl, ?_⟩; have n0_ := Aside0.mk (blk_below (g := gb209) (o := .cells #[.int .u64 a0_0, .int .i64 a0_1, .bool a0_2, .string a0_3] 39 (0, 0)) (by (with_reducible repeat (first | refine blk_drewN ?_ _ | refine blk_drew ?_ | refine blk_alloc ?_ _)); exact BK209.out) hb); have n1_ := Aside0.mk (below_step (by repeat (first | (with_reducible first | exact HB.out | apply below_alloc | apply pw_below_drewN | apply below_drew1 | refine below_set ?_ GE209.out) | exact HB.out)) hb); clear BK209; clear HB; have BK209 := n0_; have HB := n1_; clear n0_ n1_; (try clear hb); (try clear hb2); (try clear hk); (try clear hi)) | ((with_reducible refine gate_callee (f := 20) rfl ?_); refine goesL_ (some 110) rfl rfl Try.func20 (by kernel_rfl) rfl #[.string ((a1 ++ t214) ++ a2), .int .i64 (a1.size : Int), .int .i64 2000] rfl (by (try simp only [List.map_toArray, List.map_cons, List.map_nil]); first | done | rfl | (simp only [List.length_drop, List.length_take]; rfl)) ?_; (with_reducible refine (wire_TakeCount.calls kj3 ((a1 ++ t214) ++ a2) (a1.size : Int) 2000 t227 t228 t229 _ A30.out).mono ?_); rintro e w' ⟨rfl, ⟨nd, rfl⟩⟩; refine ⟨_, rfl, ?_⟩; have hcz53_0 : w52.cell? ⟨gb209, 0, none⟩ = some (.int .u64 a0_0) := (blk_cell BK209.out 0).trans rfl; have hcz53_1 : w52.cell? ⟨gb209, 1, none⟩ = some (.int .i64 a0_1) := (blk_cell BK209.out 1).trans rfl; have hcz53_2 : w52.cell? ⟨gb209, 2, none⟩ = some (.bool a0_2) := (blk_cell BK209.out 2).trans rfl; have hcz53_3 : w52.cell? ⟨gb209, 3, none⟩ = some (.string a0_3) := (blk_cell BK209.out 3).trans rfl; have hfz53_0 := blk_frozen BK209.out 0; have hfz53_1 := blk_frozen BK209.out 1; have hfz53_2 := blk_frozen BK209.out 2; have hfz53_3 := blk_frozen BK209.out 3) | (go_at_call 9; (with_reducible refine (skirmishlaw04_awake.calls kj3  t230 _ A46.out).mono ?_); rintro e w54 ⟨rfl, hb⟩; have n0_ := Aside0.mk (blk_below (g := gb209) (o := .cells #[.int .u64 a0_0, .int .i64 a0_1, .bool a0_2, .string a0_3] 39 (0, 0)) (by (with_reducible repeat (first | refine blk_drewN ?_ _ | refine blk_drew ?_ | refine blk_alloc ?_ _)); exact BK209.out) hb); have n1_ := Aside0.mk (below_step (by repeat (first | (with_reducible first | exact HB.out | apply below_alloc | apply pw_below_drewN | apply below_drew1 | refine below_set ?_ GE209.out) | exact HB.out)) hb); clear BK209; clear HB; have BK209 := n0_; have HB := n1_; clear n0_ n1_; (try clear hb); (try clear hb2); (try clear hk); (try clear hi)))
                                                      go_ret
                                                      exact ⟨by first | rfl | (simp [errW_none, errW_some] <;> rfl) | (simp [*, errW_none, errW_some] <;> rfl), by repeat (first | (with_reducible first | exact HB.out | apply below_alloc | apply pw_below_drewN | apply below_drew1 | refine below_set ?_ GE209.out) | exact HB.out)⟩
                                                    · rw [if_neg c45] at H
                                                      exact absurd ((Option.some.inj H).trans Hr.out) (by simp)
                                                  · rw [if_neg c44] at H
                                                    exact absurd ((Option.some.inj H).trans Hr.out) (by simp)
                                                · rw [if_neg c43] at H
                                                  exact absurd ((Option.some.inj H).trans Hr.out) (by simp)
                                              · rw [if_neg c42] at H
                                                exact absurd ((Option.some.inj H).trans Hr.out) (by simp)
                                            · rw [if_neg c41] at H
                                              exact absurd ((Option.some.inj H).trans Hr.out) (by simp)
                                          · rw [if_neg c40] at H
                                            exact absurd ((Option.some.inj H).trans Hr.out) (by simp)
                                        · rw [if_neg c39] at H
                                          exact absurd ((Option.some.inj H).trans Hr.out) (by simp)
                                      · rw [if_neg c38] at H
                                        exact absurd ((Option.some.inj H).trans Hr.out) (by simp)
                                    · rw [if_neg c37] at H
                                      exact absurd ((Option.some.inj H).trans Hr.out) (by simp)
                                  · rw [if_neg c36] at H
                                    exact absurd ((Option.some.inj H).trans Hr.out) (by simp)
                                · rw [if_neg c35] at H
                                  exact absurd ((Option.some.inj H).trans Hr.out) (by simp)
                              · rw [if_neg c34] at H
                                exact absurd ((Option.some.inj H).trans Hr.out) (by simp)
                            · rw [if_neg c33] at H
                              exact absurd ((Option.some.inj H).trans Hr.out) (by simp)
                          · rw [if_neg c32] at H
                            exact absurd ((Option.some.inj H).trans Hr.out) (by simp)
                        · rw [if_neg c31] at H
                          exact absurd ((Option.some.inj H).trans Hr.out) (by simp)
                      · rw [if_neg c28] at H
                        exact absurd H (by simp)
                    · rw [if_neg c27] at H
                      exact absurd H (by simp)
                  · rw [if_neg c25] at H
                    exact absurd H (by simp)
                · rw [if_neg c24] at H
                  exact absurd H (by simp)
              · rw [if_neg c22] at H
                exact absurd H (by simp)
            · rw [if_neg c21] at H
              exact absurd H (by simp)
          · rw [if_neg c19] at H
            exact absurd H (by simp)
        · rw [if_neg c18] at H
          exact absurd H (by simp)


end Go.Proofs.Ytdjndjgafdfkaaa.F
