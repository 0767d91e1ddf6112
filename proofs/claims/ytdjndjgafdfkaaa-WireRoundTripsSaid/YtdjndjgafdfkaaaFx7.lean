/- Functions that the laws of this seat reach: for each a plain function, and a proof that the Go code comes to its answers. Out of the kit's print program; mended by hand where it fell. -/
import Derived.Test.YtdjndjgafdfkaaaFx0
import Derived.Test.YtdjndjgafdfkaaaFx1
import Derived.Test.YtdjndjgafdfkaaaFx2
import Derived.Test.YtdjndjgafdfkaaaFx6
namespace Go.Proofs.Ytdjndjgafdfkaaa.F
open Go.RowKit Go.Proofs.YtdjndjgafdfkaaaW.PrintWords Go.Proofs.YtdjndjgafdfkaaaW.PrintLast Go.Proofs.YtdjndjgafdfkaaaW.PrintMore
attribute [local go_sem] max2_int min2_int max_two min_two max_three min_three max_four min_four   -- for this text's walks alone
set_option linter.unusedVariables false
set_option linter.unusedSimpArgs false

/-! ### skirmishlaw04_WireCut: function 8 -/
def skirmishlaw04_WireCut.j0 : Nat → Int → ByteArray → ByteArray → ByteArray → Bool → Option (Bool)
  | 0, _, _, _, _, _ => none
  | k + 1, x2, x7, x8, x9, x73 => if x73 = true then (some false) else (if (x7.size : Int) = 0 then (none) else (if 0 ≤ (Int.tmod (wrap64 ((IntKind.u64.wrap (x2)) / 2)) (x7.size : Int)) then (if (Int.tmod (wrap64 ((IntKind.u64.wrap (x2)) / 2)) (x7.size : Int)) ≤ (x7.size : Int) then ((wire_TakeUint.f k (x7.extract 0 ((Int.tmod (wrap64 ((IntKind.u64.wrap (x2)) / 2)) (x7.size : Int)) : Int).toNat) 0).bind fun bt247 => (if (x8.size : Int) = 0 then (none) else (if 0 ≤ (Int.tmod (wrap64 ((IntKind.u64.wrap (x2)) / 2)) (x8.size : Int)) then (if (Int.tmod (wrap64 ((IntKind.u64.wrap (x2)) / 2)) (x8.size : Int)) ≤ (x8.size : Int) then ((wire_TakeInt.f k (x8.extract 0 ((Int.tmod (wrap64 ((IntKind.u64.wrap (x2)) / 2)) (x8.size : Int)) : Int).toNat) 0).bind fun bt250 => (if (x9.size : Int) = 0 then (none) else (if 0 ≤ (Int.tmod (wrap64 ((IntKind.u64.wrap (x2)) / 2)) (x9.size : Int)) then (if (Int.tmod (wrap64 ((IntKind.u64.wrap (x2)) / 2)) (x9.size : Int)) ≤ (x9.size : Int) then ((wire_TakeText.f k (x9.extract 0 ((Int.tmod (wrap64 ((IntKind.u64.wrap (x2)) / 2)) (x9.size : Int)) : Int).toNat) 0 2000).bind fun bt253 => ((wire_TakeBool.f k (⟨#[]⟩ : ByteArray) 0).bind fun bt256 => (if bt247.2.2 = 4 then (if bt250.2.2 = 4 then (if bt253.2.2 = 4 then (if bt256.2.2 = 4 then ((skirmishlaw04_awake.f k).bind fun t259 => (some t259)) else (some false)) else (some false)) else (some false)) else (some false)))) else (none)) else (none)))) else (none)) else (none)))) else (none)) else (none)))
def skirmishlaw04_WireCut.f (k : Nat) (a0_0 : Int) (a0_1 : Int) (a0_2 : Bool) (a0_3 : ByteArray) (a1 : Int) (a2 : Int) : Option (Bool) := if (a0_3.size : Int) > 2000 then ((skirmishlaw04_awake.f k).bind fun t242 => (some t242)) else ((wire_Uint.f k a0_0).bind fun t243 => ((wire_Int.f k a0_1).bind fun t244 => ((wire_Text.f k a0_3).bind fun t245 => (if (t243.size : Int) < 1 then (skirmishlaw04_WireCut.j0 k a2 t243 t244 t245 true) else (if (t243.size : Int) > 10 then (skirmishlaw04_WireCut.j0 k a2 t243 t244 t245 true) else (if (t244.size : Int) < 1 then (skirmishlaw04_WireCut.j0 k a2 t243 t244 t245 true) else (if (t244.size : Int) > 10 then (skirmishlaw04_WireCut.j0 k a2 t243 t244 t245 true) else (if (t245.size : Int) < 1 then (skirmishlaw04_WireCut.j0 k a2 t243 t244 t245 true) else (if a0_0 ≤ a1 then ((wire_Uint.f k a1).bind fun t246 => (skirmishlaw04_WireCut.j0 k a2 t243 t244 t245 (decide ((t243.size : Int) > (t246.size : Int))))) else (skirmishlaw04_WireCut.j0 k a2 t243 t244 t245 false))))))))))
theorem skirmishlaw04_WireCut.mono_l : ∀ k, (∀ y0 y1 y2 y3 y4, LeO (skirmishlaw04_WireCut.j0 k y0 y1 y2 y3 y4) (skirmishlaw04_WireCut.j0 (k + 1) y0 y1 y2 y3 y4))
  | 0 => fun _ _ _ _ _ r h => by simp [skirmishlaw04_WireCut.j0] at h
  | k + 1 => by
    have ih0 := skirmishlaw04_WireCut.mono_l k
    · intro y0 y1 y2 y3 y4
      unfold skirmishlaw04_WireCut.j0
      repeat' first
      | (with_reducible exact ih0 _ _ _ _ _)
      | (with_reducible exact skirmishlaw04_awake.mono _)
      | (with_reducible exact wire_Int.mono _ _)
      | (with_reducible exact wire_TakeBool.mono _ _ _)
      | (with_reducible exact wire_TakeInt.mono _ _ _)
      | (with_reducible exact wire_TakeText.mono _ _ _ _)
      | (with_reducible exact wire_TakeUint.mono _ _ _)
      | (with_reducible exact wire_Text.mono _ _)
      | (with_reducible exact wire_Uint.mono _ _)
      | (with_reducible exact LeO.refl _)
      | (with_reducible exact LeO.none _)
      | (with_reducible refine LeO.ite ?_ ?_)
      | (with_reducible refine LeO.bind ?_ (fun _ => ?_))
      | exact ih0 _ _ _ _ _
      | exact skirmishlaw04_awake.mono _
      | exact wire_Int.mono _ _
      | exact wire_TakeBool.mono _ _ _
      | exact wire_TakeInt.mono _ _ _
      | exact wire_TakeText.mono _ _ _ _
      | exact wire_TakeUint.mono _ _ _
      | exact wire_Text.mono _ _
      | exact wire_Uint.mono _ _
      | exact LeO.none _
      | refine LeO.ite ?_ ?_
      | refine LeO.bind ?_ (fun _ => ?_)
theorem skirmishlaw04_WireCut.mono : ∀ a0 a1 a2 a3 a4 a5 k, LeO (skirmishlaw04_WireCut.f k a0 a1 a2 a3 a4 a5) (skirmishlaw04_WireCut.f (k + 1) a0 a1 a2 a3 a4 a5) := by
  intro a0 a1 a2 a3 a4 a5 k
  have ih0 := skirmishlaw04_WireCut.mono_l k
  unfold skirmishlaw04_WireCut.f
  repeat' first
      | (with_reducible exact ih0 _ _ _ _ _)
      | (with_reducible exact skirmishlaw04_awake.mono _)
      | (with_reducible exact wire_Int.mono _ _)
      | (with_reducible exact wire_TakeBool.mono _ _ _)
      | (with_reducible exact wire_TakeInt.mono _ _ _)
      | (with_reducible exact wire_TakeText.mono _ _ _ _)
      | (with_reducible exact wire_TakeUint.mono _ _ _)
      | (with_reducible exact wire_Text.mono _ _)
      | (with_reducible exact wire_Uint.mono _ _)
      | (with_reducible exact LeO.refl _)
      | (with_reducible exact LeO.none _)
      | (with_reducible refine LeO.ite ?_ ?_)
      | (with_reducible refine LeO.bind ?_ (fun _ => ?_))
      | exact ih0 _ _ _ _ _
      | exact skirmishlaw04_awake.mono _
      | exact wire_Int.mono _ _
      | exact wire_TakeBool.mono _ _ _
      | exact wire_TakeInt.mono _ _ _
      | exact wire_TakeText.mono _ _ _ _
      | exact wire_TakeUint.mono _ _ _
      | exact wire_Text.mono _ _
      | exact wire_Uint.mono _ _
      | exact LeO.none _
      | refine LeO.ite ?_ ?_
      | refine LeO.bind ?_ (fun _ => ?_)
def skirmishlaw04_WireCut.T3 : Bool × List (List Nat × List Nat) := (true, [([], []), ([0], [0]), ([1], [1]), ([], []), ([3], [3]), ([4, 2], [4]), ([], []), ([6], [6]), ([7, 5], [7]), ([2, 8, 0, 1, 2], [2]), ([5, 9, 0, 1, 2, 3, 4, 5, 9], [5]), ([8, 10, 0, 1, 2, 3, 4, 5, 6, 7, 8, 9, 10], [8])])
def skirmishlaw04_WireCut.B3 : List Nat := [0, 1, 3, 0, 8, 31, 0, 64, 255, 511, 1023, 2047]
theorem skirmishlaw04_WireCut.tab3 : rtab .any (opsOf Try.f8 3) = skirmishlaw04_WireCut.T3 := by kernel_rfl
theorem skirmishlaw04_WireCut.bits3 : waitsOk skirmishlaw04_WireCut.T3.2 skirmishlaw04_WireCut.B3 = true := by kernel_rfl
set_option maxHeartbeats 8000000 in
set_option maxRecDepth 100000 in
theorem skirmishlaw04_WireCut.calls (k : Nat) (a0_0 : Int) (a0_1 : Int) (a0_2 : Bool) (a0_3 : ByteArray) (a1 : Int) (a2 : Int) (r : Bool) (w : World) (h : skirmishlaw04_WireCut.f k a0_0 a0_1 a0_2 a0_3 a1 a2 = some r) :
    Calls Try.prog 8 #[.agg #[.int .u64 a0_0, .int .i64 a0_1, .bool a0_2, .string a0_3], .int .u64 a1, .int .i64 a2] w fun e w' => e = .returned (.bool r) ∧ Below w.heap.size w w' := by
  have hu39 := Try.underlying39
  have HB := Aside0.mk (Below.refl w.heap.size w)
  have H : (if (a0_3.size : Int) > 2000 then ((skirmishlaw04_awake.f k).bind fun t242 => (some t242)) else ((wire_Uint.f k a0_0).bind fun t243 => ((wire_Int.f k a0_1).bind fun t244 => ((wire_Text.f k a0_3).bind fun t245 => (if (t243.size : Int) < 1 then (skirmishlaw04_WireCut.j0 k a2 t243 t244 t245 true) else (if (t243.size : Int) > 10 then (skirmishlaw04_WireCut.j0 k a2 t243 t244 t245 true) else (if (t244.size : Int) < 1 then (skirmishlaw04_WireCut.j0 k a2 t243 t244 t245 true) else (if (t244.size : Int) > 10 then (skirmishlaw04_WireCut.j0 k a2 t243 t244 t245 true) else (if (t245.size : Int) < 1 then (skirmishlaw04_WireCut.j0 k a2 t243 t244 t245 true) else (if a0_0 ≤ a1 then ((wire_Uint.f k a1).bind fun t246 => (skirmishlaw04_WireCut.j0 k a2 t243 t244 t245 (decide ((t243.size : Int) > (t246.size : Int))))) else (skirmishlaw04_WireCut.j0 k a2 t243 t244 t245 false))))))))))) = some r := h
  clear h
  by_cases c4 : (a0_3.size : Int) > 2000
  · rw [if_pos c4] at H
    have c4b0 : decide (2000 < (a0_3.size : Int)) = true := decide_eq_true c4
    have c4b1 : decide (2000 < a0_3.size) = true := decide_eq_true (by omega)
    clear c4
    replace H := Option.bind_eq_some_iff.mp H
    obtain ⟨t242, A50, H⟩ := H
    replace H : (some t242) = some r := H
    have A5 := Aside0.mk A50
    clear A50
    obtain rfl := Option.some.inj H
    go_enter Try.func8, Try.ntmps8
    go_wp2_with (first | ((with_reducible refine gate_dst (N := 3) rfl ?_); (try (refine gate_guard (by rfl) ?_; dsimp only)); refine box_event ?hg (N := 3) ?hd (cs := #[.int .u64 a0_0, .int .i64 a0_1, .bool a0_2, .string a0_3]) (t := 39) ?hr ?_; (case hd => rfl); (case hg => rfl); (case hr => first | (go_simp; done) | (go_simp; rfl)); intro gb241 hg w6 hbox hb; have n0_ := Aside0.mk (below_step (by repeat (first | (with_reducible first | exact HB.out | apply below_alloc | apply pw_below_drewN | apply below_drew1) | exact HB.out)) hb); have n1_ := Aside0.mk (hbox); have n2_ := Aside0.mk ((by rw [hg]; exact (below_size (by repeat (first | (with_reducible first | exact HB.out | apply below_alloc | apply pw_below_drewN | apply below_drew1) | exact HB.out))) : w.heap.size ≤ gb241)); have n3_ := Aside0.mk ((by rw [hg]; exact (below_size (by repeat (first | (with_reducible first | exact HB.out | apply below_alloc | apply pw_below_drewN | apply below_drew1) | exact HB.out))) : w.heap.size ≤ gb241)); clear HB; have HB := n0_; have BK241 := n1_; have GW241 := n2_; have GE241 := n3_; clear n0_ n1_ n2_ n3_; clear hb hbox hg; have hcz7_0 : w6.cell? ⟨gb241, 0, none⟩ = some (.int .u64 a0_0) := (blk_cell BK241.out 0).trans rfl; have hcz7_1 : w6.cell? ⟨gb241, 1, none⟩ = some (.int .i64 a0_1) := (blk_cell BK241.out 1).trans rfl; have hcz7_2 : w6.cell? ⟨gb241, 2, none⟩ = some (.bool a0_2) := (blk_cell BK241.out 2).trans rfl; have hcz7_3 : w6.cell? ⟨gb241, 3, none⟩ = some (.string a0_3) := (blk_cell BK241.out 3).trans rfl; have hfz7_0 := blk_frozen BK241.out 0; have hfz7_1 := blk_frozen BK241.out 1; have hfz7_2 := blk_frozen BK241.out 2; have hfz7_3 := blk_frozen BK241.out 3) | ((with_reducible refine gate_callee (f := 9) rfl ?_); refine goesL_ (some 27) rfl rfl Try.func9 (by kernel_rfl) rfl #[] rfl (by (try simp only [List.map_toArray, List.map_cons, List.map_nil]); first | done | rfl | (simp only [List.length_drop, List.length_take]; rfl)) ?_; (with_reducible refine (skirmishlaw04_awake.calls k  t242 _ A5.out).mono ?_); rintro e w8 ⟨rfl, hb⟩; refine ⟨_, rfl, ?_⟩; have n0_ := Aside0.mk (blk_below (g := gb241) (o := .cells #[.int .u64 a0_0, .int .i64 a0_1, .bool a0_2, .string a0_3] 39 (0, 0)) (by (with_reducible repeat (first | refine blk_drewN ?_ _ | refine blk_drew ?_ | refine blk_alloc ?_ _)); exact BK241.out) hb); have n1_ := Aside0.mk (below_step (by repeat (first | (with_reducible first | exact HB.out | apply below_alloc | apply pw_below_drewN | apply below_drew1 | refine below_set ?_ GE241.out) | exact HB.out)) hb); clear BK241; clear HB; have BK241 := n0_; have HB := n1_; clear n0_ n1_; (try clear hb); (try clear hb2); (try clear hk); (try clear hi)))
    go_ret
    exact ⟨by first | rfl | (simp [errW_none, errW_some] <;> rfl) | (simp [*, errW_none, errW_some] <;> rfl), by repeat (first | (with_reducible first | exact HB.out | apply below_alloc | apply pw_below_drewN | apply below_drew1 | refine below_set ?_ GE241.out) | exact HB.out)⟩
  · rw [if_neg c4] at H
    have c4b0 : decide (2000 < (a0_3.size : Int)) = false := decide_eq_false c4
    have c4b1 : decide (2000 < a0_3.size) = false := decide_eq_false (by omega)
    clear c4
    replace H := Option.bind_eq_some_iff.mp H
    obtain ⟨t243, A90, H⟩ := H
    replace H : ((wire_Int.f k a0_1).bind fun t244 => ((wire_Text.f k a0_3).bind fun t245 => (if (t243.size : Int) < 1 then (skirmishlaw04_WireCut.j0 k a2 t243 t244 t245 true) else (if (t243.size : Int) > 10 then (skirmishlaw04_WireCut.j0 k a2 t243 t244 t245 true) else (if (t244.size : Int) < 1 then (skirmishlaw04_WireCut.j0 k a2 t243 t244 t245 true) else (if (t244.size : Int) > 10 then (skirmishlaw04_WireCut.j0 k a2 t243 t244 t245 true) else (if (t245.size : Int) < 1 then (skirmishlaw04_WireCut.j0 k a2 t243 t244 t245 true) else (if a0_0 ≤ a1 then ((wire_Uint.f k a1).bind fun t246 => (skirmishlaw04_WireCut.j0 k a2 t243 t244 t245 (decide ((t243.size : Int) > (t246.size : Int))))) else (skirmishlaw04_WireCut.j0 k a2 t243 t244 t245 false))))))))) = some r := H
    have A9 := Aside0.mk A90
    clear A90
    replace H := Option.bind_eq_some_iff.mp H
    obtain ⟨t244, A100, H⟩ := H
    replace H : ((wire_Text.f k a0_3).bind fun t245 => (if (t243.size : Int) < 1 then (skirmishlaw04_WireCut.j0 k a2 t243 t244 t245 true) else (if (t243.size : Int) > 10 then (skirmishlaw04_WireCut.j0 k a2 t243 t244 t245 true) else (if (t244.size : Int) < 1 then (skirmishlaw04_WireCut.j0 k a2 t243 t244 t245 true) else (if (t244.size : Int) > 10 then (skirmishlaw04_WireCut.j0 k a2 t243 t244 t245 true) else (if (t245.size : Int) < 1 then (skirmishlaw04_WireCut.j0 k a2 t243 t244 t245 true) else (if a0_0 ≤ a1 then ((wire_Uint.f k a1).bind fun t246 => (skirmishlaw04_WireCut.j0 k a2 t243 t244 t245 (decide ((t243.size : Int) > (t246.size : Int))))) else (skirmishlaw04_WireCut.j0 k a2 t243 t244 t245 false)))))))) = some r := H
    have A10 := Aside0.mk A100
    clear A100
    replace H := Option.bind_eq_some_iff.mp H
    obtain ⟨t245, A110, H⟩ := H
    replace H : (if (t243.size : Int) < 1 then (skirmishlaw04_WireCut.j0 k a2 t243 t244 t245 true) else (if (t243.size : Int) > 10 then (skirmishlaw04_WireCut.j0 k a2 t243 t244 t245 true) else (if (t244.size : Int) < 1 then (skirmishlaw04_WireCut.j0 k a2 t243 t244 t245 true) else (if (t244.size : Int) > 10 then (skirmishlaw04_WireCut.j0 k a2 t243 t244 t245 true) else (if (t245.size : Int) < 1 then (skirmishlaw04_WireCut.j0 k a2 t243 t244 t245 true) else (if a0_0 ≤ a1 then ((wire_Uint.f k a1).bind fun t246 => (skirmishlaw04_WireCut.j0 k a2 t243 t244 t245 (decide ((t243.size : Int) > (t246.size : Int))))) else (skirmishlaw04_WireCut.j0 k a2 t243 t244 t245 false))))))) = some r := H
    have A11 := Aside0.mk A110
    clear A110
    have HC12 := Aside0.mk H
    clear H
    go_enter Try.func8, Try.ntmps8
    try go_wp2_with (first | ((with_reducible refine gate_dst (N := 3) rfl ?_); (try (refine gate_guard (by rfl) ?_; dsimp only)); refine box_event ?hg (N := 3) ?hd (cs := #[.int .u64 a0_0, .int .i64 a0_1, .bool a0_2, .string a0_3]) (t := 39) ?hr ?_; (case hd => rfl); (case hg => rfl); (case hr => first | (go_simp; done) | (go_simp; rfl)); intro gb241 hg w13 hbox hb; have n0_ := Aside0.mk (below_step (by repeat (first | (with_reducible first | exact HB.out | apply below_alloc | apply pw_below_drewN | apply below_drew1) | exact HB.out)) hb); have n1_ := Aside0.mk (hbox); have n2_ := Aside0.mk ((by rw [hg]; exact (below_size (by repeat (first | (with_reducible first | exact HB.out | apply below_alloc | apply pw_below_drewN | apply below_drew1) | exact HB.out))) : w.heap.size ≤ gb241)); have n3_ := Aside0.mk ((by rw [hg]; exact (below_size (by repeat (first | (with_reducible first | exact HB.out | apply below_alloc | apply pw_below_drewN | apply below_drew1) | exact HB.out))) : w.heap.size ≤ gb241)); clear HB; have HB := n0_; have BK241 := n1_; have GW241 := n2_; have GE241 := n3_; clear n0_ n1_ n2_ n3_; clear hb hbox hg; have hcz14_0 : w13.cell? ⟨gb241, 0, none⟩ = some (.int .u64 a0_0) := (blk_cell BK241.out 0).trans rfl; have hcz14_1 : w13.cell? ⟨gb241, 1, none⟩ = some (.int .i64 a0_1) := (blk_cell BK241.out 1).trans rfl; have hcz14_2 : w13.cell? ⟨gb241, 2, none⟩ = some (.bool a0_2) := (blk_cell BK241.out 2).trans rfl; have hcz14_3 : w13.cell? ⟨gb241, 3, none⟩ = some (.string a0_3) := (blk_cell BK241.out 3).trans rfl; have hfz14_0 := blk_frozen BK241.out 0; have hfz14_1 := blk_frozen BK241.out 1; have hfz14_2 := blk_frozen BK241.out 2; have hfz14_3 := blk_frozen BK241.out 3))
    have n0_ := Aside0.mk (blk_drew BK241.out)
    have n1_ := Aside0.mk (below_drew1 HB.out)
    clear BK241
    clear HB
    have BK241 := n0_
    have HB := n1_
    clear n0_ n1_
    refine start_ (n := 12) (S := fun w' => w'.cell? ⟨gb241, 0, none⟩ = some (.int .u64 a0_0) ∧ w'.cell? ⟨gb241, 1, none⟩ = some (.int .i64 a0_1) ∧ w'.cell? ⟨gb241, 2, none⟩ = some (.bool a0_2) ∧ w'.cell? ⟨gb241, 3, none⟩ = some (.string a0_3)) (ds := []) #[false, false, false, false, false, false, false, false, false, false, false, false] (by kernel_rfl) rfl rfl ⟨(blk_cell BK241.out 0).trans rfl, (blk_cell BK241.out 1).trans rfl, (blk_cell BK241.out 2).trans rfl, (blk_cell BK241.out 3).trans rfl⟩ (fun hHeld => ?_); refine with_tabW skirmishlaw04_WireCut.tab3 skirmishlaw04_WireCut.bits3 (fun HT_ HW_ => ?_)
    generalize w13.drew = w15 at BK241 HB hHeld ⊢
    refine pure_ (i := 0) (N := some 28) (v := ?_) (a' := ?_) #[true, false, false, false, false, false, false, false, false, false, false, false] rfl rfl (any_of HT_.out (by kernel_rfl)) (fun _ _ _ h => h) (Or.inl ⟨by rfl, ?_⟩) ?_ ?_
    rotate_left
    · intro w'
      go_simp
      with_reducible rfl
    rotate_left
    · simp only [Act.put, List.setIfInBounds_toArray, List.set_cons_zero, List.set_cons_succ, i64_w, i32_w]
      rfl
    refine pure_ (i := 3) (N := some 31) (v := ?_) (a' := ?_) #[true, false, false, true, false, false, false, false, false, false, false, false] rfl rfl (any_of HT_.out (by kernel_rfl)) (fun _ _ _ h => h) (Or.inl ⟨by rfl, ?_⟩) ?_ ?_
    rotate_left
    · intro w'
      go_simp
      with_reducible rfl
    rotate_left
    · simp only [Act.put, List.setIfInBounds_toArray, List.set_cons_zero, List.set_cons_succ, i64_w, i32_w]
      rfl
    refine pure_ (i := 6) (N := some 34) (v := ?_) (a' := ?_) #[true, false, false, true, false, false, true, false, false, false, false, false] rfl rfl (any_of HT_.out (by kernel_rfl)) (fun _ _ _ h => h) (Or.inl ⟨by rfl, ?_⟩) ?_ ?_
    rotate_left
    · intro w'
      go_simp
      with_reducible rfl
    rotate_left
    · simp only [Act.put, List.setIfInBounds_toArray, List.set_cons_zero, List.set_cons_succ, i64_w, i32_w]
      rfl
    refine take_ (i := 1) (N := some 29) (v := ?_) (a' := ?_) #[true, true, false, true, false, false, true, false, false, false, false, false] rfl rfl (take_ofW HT_.out HW_.out (by kernel_rfl)) (fun _ _ _ h => h) (Or.inl ⟨by rfl, ?_⟩) hHeld ?_ ?_
    rotate_left
    · rintro w' ⟨s0, s1, s2, s3⟩
      go_simp
      with_reducible rfl
    rotate_left
    · simp only [Act.put, List.setIfInBounds_toArray, List.set_cons_zero, List.set_cons_succ, i64_w, i32_w]
      rfl
    refine take_ (i := 4) (N := some 32) (v := ?_) (a' := ?_) #[true, true, false, true, true, false, true, false, false, false, false, false] rfl rfl (take_ofW HT_.out HW_.out (by kernel_rfl)) (fun _ _ _ h => h) (Or.inl ⟨by rfl, ?_⟩) hHeld ?_ ?_
    rotate_left
    · rintro w' ⟨s0, s1, s2, s3⟩
      go_simp
      with_reducible rfl
    rotate_left
    · simp only [Act.put, List.setIfInBounds_toArray, List.set_cons_zero, List.set_cons_succ, i64_w, i32_w]
      rfl
    refine take_ (i := 7) (N := some 35) (v := ?_) (a' := ?_) #[true, true, false, true, true, false, true, true, false, false, false, false] rfl rfl (take_ofW HT_.out HW_.out (by kernel_rfl)) (fun _ _ _ h => h) (Or.inl ⟨by rfl, ?_⟩) hHeld ?_ ?_
    rotate_left
    · rintro w' ⟨s0, s1, s2, s3⟩
      go_simp
      with_reducible rfl
    rotate_left
    · simp only [Act.put, List.setIfInBounds_toArray, List.set_cons_zero, List.set_cons_succ, i64_w, i32_w]
      rfl
    refine one_ (i := 2) (N := some 30) #[true, true, true, true, true, false, true, true, false, false, false, false] rfl rfl (one_of HT_.out (by kernel_rfl)) (by decide) (fun K hK => ?_)
    refine goes_ Try.func12 (by kernel_rfl) rfl #[.int .u64 a0_0] (by rfl) rfl rfl (by (try simp only [List.map_toArray, List.map_cons, List.map_nil]); first | done | rfl | (simp only [List.length_drop, List.length_take]; rfl)) ?_
    with_reducible refine (wire_Uint.calls k a0_0 t243 _ A9.out).mono ?_
    rintro e w16 ⟨rfl, hb⟩
    refine ⟨_, rfl, ?_⟩
    have n0_ := Aside0.mk (blk_below (g := gb241) (o := .cells #[.int .u64 a0_0, .int .i64 a0_1, .bool a0_2, .string a0_3] 39 (0, 0)) (by (with_reducible repeat (first | refine blk_drewN ?_ _ | refine blk_drew ?_ | refine blk_alloc ?_ _)); exact BK241.out) hb)
    have n1_ := Aside0.mk (below_step (by repeat (first | (with_reducible first | exact HB.out | apply below_alloc | apply pw_below_drewN | apply below_drew1 | refine below_set ?_ GE241.out) | exact HB.out)) hb)
    clear BK241
    clear HB
    have BK241 := n0_
    have HB := n1_
    clear n0_ n1_
    (try clear hb)
    (try clear hb2)
    (try clear hk)
    (try clear hi)
    refine hK.out _ _ ⟨(blk_cell BK241.out 0).trans rfl, (blk_cell BK241.out 1).trans rfl, (blk_cell BK241.out 2).trans rfl, (blk_cell BK241.out 3).trans rfl⟩ (fun hHeld => ?_)
    clear hK K
    refine norm_ (a' := ?_) ?_ ?_
    rotate_left
    · show Act.put _ (some 30) _ = _
      simp only [Act.put, List.setIfInBounds_toArray, List.set_cons_zero, List.set_cons_succ, i64_w, i32_w]
      rfl
    refine one_ (i := 5) (N := some 33) #[true, true, true, true, true, true, true, true, false, false, false, false] rfl rfl (one_of HT_.out (by kernel_rfl)) (by decide) (fun K hK => ?_)
    refine goes_ Try.func16 (by kernel_rfl) rfl #[.int .i64 a0_1] (by rfl) rfl rfl (by (try simp only [List.map_toArray, List.map_cons, List.map_nil]); first | done | rfl | (simp only [List.length_drop, List.length_take]; rfl)) ?_
    with_reducible refine (wire_Int.calls k a0_1 t244 _ A10.out).mono ?_
    rintro e w17 ⟨rfl, hb⟩
    refine ⟨_, rfl, ?_⟩
    have n0_ := Aside0.mk (blk_below (g := gb241) (o := .cells #[.int .u64 a0_0, .int .i64 a0_1, .bool a0_2, .string a0_3] 39 (0, 0)) (by (with_reducible repeat (first | refine blk_drewN ?_ _ | refine blk_drew ?_ | refine blk_alloc ?_ _)); exact BK241.out) hb)
    have n1_ := Aside0.mk (below_step (by repeat (first | (with_reducible first | exact HB.out | apply below_alloc | apply pw_below_drewN | apply below_drew1 | refine below_set ?_ GE241.out) | exact HB.out)) hb)
    clear BK241
    clear HB
    have BK241 := n0_
    have HB := n1_
    clear n0_ n1_
    (try clear hb)
    (try clear hb2)
    (try clear hk)
    (try clear hi)
    refine hK.out _ _ ⟨(blk_cell BK241.out 0).trans rfl, (blk_cell BK241.out 1).trans rfl, (blk_cell BK241.out 2).trans rfl, (blk_cell BK241.out 3).trans rfl⟩ (fun hHeld => ?_)
    clear hK K
    refine norm_ (a' := ?_) ?_ ?_
    rotate_left
    · show Act.put _ (some 33) _ = _
      simp only [Act.put, List.setIfInBounds_toArray, List.set_cons_zero, List.set_cons_succ, i64_w, i32_w]
      rfl
    refine one_ (i := 8) (N := some 36) #[true, true, true, true, true, true, true, true, true, false, false, false] rfl rfl (one_of HT_.out (by kernel_rfl)) (by decide) (fun K hK => ?_)
    refine goes_ Try.func22 (by kernel_rfl) rfl #[.string a0_3] (by rfl) rfl rfl (by (try simp only [List.map_toArray, List.map_cons, List.map_nil]); first | done | rfl | (simp only [List.length_drop, List.length_take]; rfl)) ?_
    with_reducible refine (wire_Text.calls k a0_3 t245 _ A11.out).mono ?_
    rintro e w18 ⟨rfl, hb⟩
    refine ⟨_, rfl, ?_⟩
    have n0_ := Aside0.mk (blk_below (g := gb241) (o := .cells #[.int .u64 a0_0, .int .i64 a0_1, .bool a0_2, .string a0_3] 39 (0, 0)) (by (with_reducible repeat (first | refine blk_drewN ?_ _ | refine blk_drew ?_ | refine blk_alloc ?_ _)); exact BK241.out) hb)
    have n1_ := Aside0.mk (below_step (by repeat (first | (with_reducible first | exact HB.out | apply below_alloc | apply pw_below_drewN | apply below_drew1 | refine below_set ?_ GE241.out) | exact HB.out)) hb)
    clear BK241
    clear HB
    have BK241 := n0_
    have HB := n1_
    clear n0_ n1_
    (try clear hb)
    (try clear hb2)
    (try clear hk)
    (try clear hi)
    refine hK.out _ _ ⟨(blk_cell BK241.out 0).trans rfl, (blk_cell BK241.out 1).trans rfl, (blk_cell BK241.out 2).trans rfl, (blk_cell BK241.out 3).trans rfl⟩ (fun hHeld => ?_)
    clear hK K
    refine norm_ (a' := ?_) ?_ ?_
    rotate_left
    · show Act.put _ (some 36) _ = _
      simp only [Act.put, List.setIfInBounds_toArray, List.set_cons_zero, List.set_cons_succ, i64_w, i32_w]
      rfl
    refine pure_ (i := 9) (N := some 7) (v := ?_) (a' := ?_) #[true, true, true, true, true, true, true, true, true, true, false, false] rfl rfl (any_of HT_.out (by kernel_rfl)) (fun _ _ _ h => h) (Or.inl ⟨by rfl, ?_⟩) ?_ ?_
    rotate_left
    · intro w'
      go_simp
      with_reducible rfl
    rotate_left
    · simp only [Act.put, List.setIfInBounds_toArray, List.set_cons_zero, List.set_cons_succ, i64_w, i32_w]
      rfl
    refine pure_ (i := 10) (N := some 8) (v := ?_) (a' := ?_) #[true, true, true, true, true, true, true, true, true, true, true, false] rfl rfl (any_of HT_.out (by kernel_rfl)) (fun _ _ _ h => h) (Or.inl ⟨by rfl, ?_⟩) ?_ ?_
    rotate_left
    · intro w'
      go_simp
      with_reducible rfl
    rotate_left
    · simp only [Act.put, List.setIfInBounds_toArray, List.set_cons_zero, List.set_cons_succ, i64_w, i32_w]
      rfl
    refine pure_ (i := 11) (N := some 9) (v := ?_) (a' := ?_) #[true, true, true, true, true, true, true, true, true, true, true, true] rfl rfl (any_of HT_.out (by kernel_rfl)) (fun _ _ _ h => h) (Or.inl ⟨by rfl, ?_⟩) ?_ ?_
    rotate_left
    · intro w'
      go_simp
      with_reducible rfl
    rotate_left
    · simp only [Act.put, List.setIfInBounds_toArray, List.set_cons_zero, List.set_cons_succ, i64_w, i32_w]
      rfl
    refine done_ (done_of HT_.out (by kernel_rfl)) ?_
    go_upto_region 4 with (fail)
    go_cut [73] (fun v73 wc => ∃ (kq : Nat) (x73_11 : Bool), v73 = .bool x73_11 ∧ Aside0 (skirmishlaw04_WireCut.j0 kq a2 t243 t244 t245 x73_11 = some r) ∧ Aside0 (kq ≤ k) ∧ Aside0 (wc.heap[gb241]? = some (.cells #[.int .u64 a0_0, .int .i64 a0_1, .bool a0_2, .string a0_3] 39 (0, 0))) ∧ Aside0 (Below w.heap.size w wc))
    case first =>
      have H := HC12.out
      clear HC12
      by_cases c19 : (t243.size : Int) < 1
      · rw [if_pos c19] at H
        have c19b0 : decide ((t243.size : Int) < 1) = true := decide_eq_true c19
        have c19b1 : decide (t243.size < 1) = true := decide_eq_true (by omega)
        clear c19
        (first | rw [c19b0] | (simp only [i64_w, i32_w]; rw [c19b0]) | skip)
        have H' := Aside0.mk H
        clear H
        go_wp2
        go_meet
        case rel => exact ⟨_, (true), (by first | rfl | (simp; done) | (simp [*]; done)), H', ⟨by first | omega | exact Nat.le_refl _⟩, ⟨by (with_reducible repeat (first | refine blk_drewN ?_ _ | refine blk_drew ?_ | refine blk_alloc ?_ _)); exact BK241.out⟩, ⟨by repeat (first | (with_reducible first | exact HB.out | apply below_alloc | apply pw_below_drewN | apply below_drew1 | refine below_set ?_ GE241.out) | exact HB.out)⟩⟩
      · rw [if_neg c19] at H
        have c19b0 : decide ((t243.size : Int) < 1) = false := decide_eq_false c19
        have c19b1 : decide (t243.size < 1) = false := decide_eq_false (by omega)
        clear c19
        (first | rw [c19b0] | (simp only [i64_w, i32_w]; rw [c19b0]) | skip)
        by_cases c20 : (t243.size : Int) > 10
        · rw [if_pos c20] at H
          have c20b0 : decide (10 < (t243.size : Int)) = true := decide_eq_true c20
          have c20b1 : decide (10 < t243.size) = true := decide_eq_true (by omega)
          clear c20
          have H' := Aside0.mk H
          clear H
          go_wp2
          go_meet
          case rel => exact ⟨_, (true), (by first | rfl | (simp; done) | (simp [*]; done)), H', ⟨by first | omega | exact Nat.le_refl _⟩, ⟨by (with_reducible repeat (first | refine blk_drewN ?_ _ | refine blk_drew ?_ | refine blk_alloc ?_ _)); exact BK241.out⟩, ⟨by repeat (first | (with_reducible first | exact HB.out | apply below_alloc | apply pw_below_drewN | apply below_drew1 | refine below_set ?_ GE241.out) | exact HB.out)⟩⟩
        · rw [if_neg c20] at H
          have c20b0 : decide (10 < (t243.size : Int)) = false := decide_eq_false c20
          have c20b1 : decide (10 < t243.size) = false := decide_eq_false (by omega)
          clear c20
          by_cases c21 : (t244.size : Int) < 1
          · rw [if_pos c21] at H
            have c21b0 : decide ((t244.size : Int) < 1) = true := decide_eq_true c21
            have c21b1 : decide (t244.size < 1) = true := decide_eq_true (by omega)
            clear c21
            have H' := Aside0.mk H
            clear H
            go_wp2
            go_meet
            case rel => exact ⟨_, (true), (by first | rfl | (simp; done) | (simp [*]; done)), H', ⟨by first | omega | exact Nat.le_refl _⟩, ⟨by (with_reducible repeat (first | refine blk_drewN ?_ _ | refine blk_drew ?_ | refine blk_alloc ?_ _)); exact BK241.out⟩, ⟨by repeat (first | (with_reducible first | exact HB.out | apply below_alloc | apply pw_below_drewN | apply below_drew1 | refine below_set ?_ GE241.out) | exact HB.out)⟩⟩
          · rw [if_neg c21] at H
            have c21b0 : decide ((t244.size : Int) < 1) = false := decide_eq_false c21
            have c21b1 : decide (t244.size < 1) = false := decide_eq_false (by omega)
            clear c21
            by_cases c22 : (t244.size : Int) > 10
            · rw [if_pos c22] at H
              have c22b0 : decide (10 < (t244.size : Int)) = true := decide_eq_true c22
              have c22b1 : decide (10 < t244.size) = true := decide_eq_true (by omega)
              clear c22
              have H' := Aside0.mk H
              clear H
              go_wp2
              go_meet
              case rel => exact ⟨_, (true), (by first | rfl | (simp; done) | (simp [*]; done)), H', ⟨by first | omega | exact Nat.le_refl _⟩, ⟨by (with_reducible repeat (first | refine blk_drewN ?_ _ | refine blk_drew ?_ | refine blk_alloc ?_ _)); exact BK241.out⟩, ⟨by repeat (first | (with_reducible first | exact HB.out | apply below_alloc | apply pw_below_drewN | apply below_drew1 | refine below_set ?_ GE241.out) | exact HB.out)⟩⟩
            · rw [if_neg c22] at H
              have c22b0 : decide (10 < (t244.size : Int)) = false := decide_eq_false c22
              have c22b1 : decide (10 < t244.size) = false := decide_eq_false (by omega)
              clear c22
              by_cases c23 : (t245.size : Int) < 1
              · rw [if_pos c23] at H
                have c23b0 : decide ((t245.size : Int) < 1) = true := decide_eq_true c23
                have c23b1 : decide (t245.size < 1) = true := decide_eq_true (by omega)
                clear c23
                have H' := Aside0.mk H
                clear H
                go_wp2
                go_meet
                case rel => exact ⟨_, (true), (by first | rfl | (simp; done) | (simp [*]; done)), H', ⟨by first | omega | exact Nat.le_refl _⟩, ⟨by (with_reducible repeat (first | refine blk_drewN ?_ _ | refine blk_drew ?_ | refine blk_alloc ?_ _)); exact BK241.out⟩, ⟨by repeat (first | (with_reducible first | exact HB.out | apply below_alloc | apply pw_below_drewN | apply below_drew1 | refine below_set ?_ GE241.out) | exact HB.out)⟩⟩
              · rw [if_neg c23] at H
                have c23b0 : decide ((t245.size : Int) < 1) = false := decide_eq_false c23
                have c23b1 : decide (t245.size < 1) = false := decide_eq_false (by omega)
                clear c23
                by_cases c24 : a0_0 ≤ a1
                · rw [if_pos c24] at H
                  have c24b0 : decide (a0_0 ≤ a1) = true := decide_eq_true c24
                  clear c24
                  replace H := Option.bind_eq_some_iff.mp H
                  obtain ⟨t246, A250, H⟩ := H
                  replace H : (skirmishlaw04_WireCut.j0 k a2 t243 t244 t245 (decide ((t243.size : Int) > (t246.size : Int)))) = some r := H
                  have A25 := Aside0.mk A250
                  clear A250
                  have H' := Aside0.mk H
                  clear H
                  have hcz26_0 : w18.cell? ⟨gb241, 0, none⟩ = some (.int .u64 a0_0) := (blk_cell BK241.out 0).trans rfl
                  have hcz26_1 : w18.cell? ⟨gb241, 1, none⟩ = some (.int .i64 a0_1) := (blk_cell BK241.out 1).trans rfl
                  have hcz26_2 : w18.cell? ⟨gb241, 2, none⟩ = some (.bool a0_2) := (blk_cell BK241.out 2).trans rfl
                  have hcz26_3 : w18.cell? ⟨gb241, 3, none⟩ = some (.string a0_3) := (blk_cell BK241.out 3).trans rfl
                  have hfz26_0 := blk_frozen BK241.out 0
                  have hfz26_1 := blk_frozen BK241.out 1
                  have hfz26_2 := blk_frozen BK241.out 2
                  have hfz26_3 := blk_frozen BK241.out 3
                  go_wp2_with (first | (go_at_call 12; (with_reducible refine (wire_Uint.calls k a1 t246 _ A25.out).mono ?_); rintro e w27 ⟨rfl, hb⟩; have n0_ := Aside0.mk (blk_below (g := gb241) (o := .cells #[.int .u64 a0_0, .int .i64 a0_1, .bool a0_2, .string a0_3] 39 (0, 0)) (by (with_reducible repeat (first | refine blk_drewN ?_ _ | refine blk_drew ?_ | refine blk_alloc ?_ _)); exact BK241.out) hb); have n1_ := Aside0.mk (below_step (by repeat (first | (with_reducible first | exact HB.out | apply below_alloc | apply pw_below_drewN | apply below_drew1 | refine below_set ?_ GE241.out) | exact HB.out)) hb); clear BK241; clear HB; have BK241 := n0_; have HB := n1_; clear n0_ n1_; (try clear hb); (try clear hb2); (try clear hk); (try clear hi)))
                  go_meet
                  case rel => exact ⟨_, (decide ((t243.size : Int) > (t246.size : Int))), (by first | rfl | (simp; done) | (simp [*]; done)), H', ⟨by first | omega | exact Nat.le_refl _⟩, ⟨by (with_reducible repeat (first | refine blk_drewN ?_ _ | refine blk_drew ?_ | refine blk_alloc ?_ _)); exact BK241.out⟩, ⟨by repeat (first | (with_reducible first | exact HB.out | apply below_alloc | apply pw_below_drewN | apply below_drew1 | refine below_set ?_ GE241.out) | exact HB.out)⟩⟩
                · rw [if_neg c24] at H
                  have c24b0 : decide (a0_0 ≤ a1) = false := decide_eq_false c24
                  clear c24
                  have H' := Aside0.mk H
                  clear H
                  have hcz28_0 : w18.cell? ⟨gb241, 0, none⟩ = some (.int .u64 a0_0) := (blk_cell BK241.out 0).trans rfl
                  have hcz28_1 : w18.cell? ⟨gb241, 1, none⟩ = some (.int .i64 a0_1) := (blk_cell BK241.out 1).trans rfl
                  have hcz28_2 : w18.cell? ⟨gb241, 2, none⟩ = some (.bool a0_2) := (blk_cell BK241.out 2).trans rfl
                  have hcz28_3 : w18.cell? ⟨gb241, 3, none⟩ = some (.string a0_3) := (blk_cell BK241.out 3).trans rfl
                  have hfz28_0 := blk_frozen BK241.out 0
                  have hfz28_1 := blk_frozen BK241.out 1
                  have hfz28_2 := blk_frozen BK241.out 2
                  have hfz28_3 := blk_frozen BK241.out 3
                  go_wp2
                  go_meet
                  case rel => exact ⟨_, (false), (by first | rfl | (simp; done) | (simp [*]; done)), H', ⟨by first | omega | exact Nat.le_refl _⟩, ⟨by (with_reducible repeat (first | refine blk_drewN ?_ _ | refine blk_drew ?_ | refine blk_alloc ?_ _)); exact BK241.out⟩, ⟨by repeat (first | (with_reducible first | exact HB.out | apply below_alloc | apply pw_below_drewN | apply below_drew1 | refine below_set ?_ GE241.out) | exact HB.out)⟩⟩
    case rest =>
      clear HC12
      try clear c1
      try clear c2
      try clear p2
      try clear c4
      try clear c4b0
      try clear c4b1
      try clear c8
      try clear c9
      try clear c12
      try clear c16
      try clear c19
      try clear c19b0
      try clear c19b1
      try clear c20
      try clear c20b0
      try clear c20b1
      try clear c21
      try clear c21b0
      try clear c21b1
      try clear c22
      try clear c22b0
      try clear c22b1
      try clear c23
      try clear c23b0
      try clear c23b1
      try clear c24
      try clear c24b0
      try clear hcz14_0
      try clear hcz14_1
      try clear hcz14_2
      try clear hcz14_3
      try clear hcz26_0
      try clear hcz26_1
      try clear hcz26_2
      try clear hcz26_3
      try clear hcz28_0
      try clear hcz28_1
      try clear hcz28_2
      try clear hcz28_3
      try clear hcz7_0
      try clear hcz7_1
      try clear hcz7_2
      try clear hcz7_3
      try clear hfz14_0
      try clear hfz14_1
      try clear hfz14_2
      try clear hfz14_3
      try clear hfz26_0
      try clear hfz26_1
      try clear hfz26_2
      try clear hfz26_3
      try clear hfz28_0
      try clear hfz28_1
      try clear hfz28_2
      try clear hfz28_3
      try clear hfz7_0
      try clear hfz7_1
      try clear hfz7_2
      try clear hfz7_3
      obtain ⟨kq, x73_11, rfl, HA, HJ11, BK241, HB⟩ := hcut
      cases kq with
      | zero => exact absurd HA.out (by simp [skirmishlaw04_WireCut.j0])
      | succ kj11 =>
        have H := HA.out
        clear HA
        simp only [skirmishlaw04_WireCut.j0] at H
        by_cases c29 : x73_11 = true
        · subst c29
          have H1 : (some false) = some r := by rw [if_pos rfl] at H; exact H
          clear H
          have H := H1
          clear H1
          obtain rfl := Option.some.inj H
          go_wp2
          go_ret
          exact ⟨by first | rfl | (simp [errW_none, errW_some] <;> rfl) | (simp [*, errW_none, errW_some] <;> rfl), by repeat (first | (with_reducible first | exact HB.out | apply below_alloc | apply pw_below_drewN | apply below_drew1 | refine below_set ?_ GE241.out) | exact HB.out)⟩
        · replace c29 := Bool.eq_false_iff.mpr c29
          subst c29
          have H1 : (if (t243.size : Int) = 0 then (none) else (if 0 ≤ (Int.tmod (wrap64 ((IntKind.u64.wrap (a2)) / 2)) (t243.size : Int)) then (if (Int.tmod (wrap64 ((IntKind.u64.wrap (a2)) / 2)) (t243.size : Int)) ≤ (t243.size : Int) then ((wire_TakeUint.f kj11 (t243.extract 0 ((Int.tmod (wrap64 ((IntKind.u64.wrap (a2)) / 2)) (t243.size : Int)) : Int).toNat) 0).bind fun bt247 => (if (t244.size : Int) = 0 then (none) else (if 0 ≤ (Int.tmod (wrap64 ((IntKind.u64.wrap (a2)) / 2)) (t244.size : Int)) then (if (Int.tmod (wrap64 ((IntKind.u64.wrap (a2)) / 2)) (t244.size : Int)) ≤ (t244.size : Int) then ((wire_TakeInt.f kj11 (t244.extract 0 ((Int.tmod (wrap64 ((IntKind.u64.wrap (a2)) / 2)) (t244.size : Int)) : Int).toNat) 0).bind fun bt250 => (if (t245.size : Int) = 0 then (none) else (if 0 ≤ (Int.tmod (wrap64 ((IntKind.u64.wrap (a2)) / 2)) (t245.size : Int)) then (if (Int.tmod (wrap64 ((IntKind.u64.wrap (a2)) / 2)) (t245.size : Int)) ≤ (t245.size : Int) then ((wire_TakeText.f kj11 (t245.extract 0 ((Int.tmod (wrap64 ((IntKind.u64.wrap (a2)) / 2)) (t245.size : Int)) : Int).toNat) 0 2000).bind fun bt253 => ((wire_TakeBool.f kj11 (⟨#[]⟩ : ByteArray) 0).bind fun bt256 => (if bt247.2.2 = 4 then (if bt250.2.2 = 4 then (if bt253.2.2 = 4 then (if bt256.2.2 = 4 then ((skirmishlaw04_awake.f kj11).bind fun t259 => (some t259)) else (some false)) else (some false)) else (some false)) else (some false)))) else (none)) else (none)))) else (none)) else (none)))) else (none)) else (none))) = some r := by rw [if_neg (show ¬ (false = true) by decide)] at H; exact H
          clear H
          have H := H1
          clear H1
          by_cases c30 : (t243.size : Int) = 0
          · rw [if_pos c30] at H
            exact absurd H (by simp)
          · rw [if_neg c30] at H
            have c30b0 : ((t243.size : Int) == 0) = false := beq_eq_false_iff_ne.mpr c30
            have c30b1 : ((t243.size : Int) != 0) = true := bne_iff_ne.mpr c30
            obtain ⟨ji31, hji31⟩ : ∃ j_ : Int, (Int.tmod (wrap64 ((IntKind.u64.wrap (a2)) / 2)) (t243.size : Int)) = j_ := ⟨_, rfl⟩
            replace H : (if 0 ≤ (ji31) then (if (ji31) ≤ (t243.size : Int) then ((wire_TakeUint.f kj11 (t243.extract 0 ((ji31) : Int).toNat) 0).bind fun bt247 => (if (t244.size : Int) = 0 then (none) else (if 0 ≤ (Int.tmod (wrap64 ((IntKind.u64.wrap (a2)) / 2)) (t244.size : Int)) then (if (Int.tmod (wrap64 ((IntKind.u64.wrap (a2)) / 2)) (t244.size : Int)) ≤ (t244.size : Int) then ((wire_TakeInt.f kj11 (t244.extract 0 ((Int.tmod (wrap64 ((IntKind.u64.wrap (a2)) / 2)) (t244.size : Int)) : Int).toNat) 0).bind fun bt250 => (if (t245.size : Int) = 0 then (none) else (if 0 ≤ (Int.tmod (wrap64 ((IntKind.u64.wrap (a2)) / 2)) (t245.size : Int)) then (if (Int.tmod (wrap64 ((IntKind.u64.wrap (a2)) / 2)) (t245.size : Int)) ≤ (t245.size : Int) then ((wire_TakeText.f kj11 (t245.extract 0 ((Int.tmod (wrap64 ((IntKind.u64.wrap (a2)) / 2)) (t245.size : Int)) : Int).toNat) 0 2000).bind fun bt253 => ((wire_TakeBool.f kj11 (⟨#[]⟩ : ByteArray) 0).bind fun bt256 => (if bt247.2.2 = 4 then (if bt250.2.2 = 4 then (if bt253.2.2 = 4 then (if bt256.2.2 = 4 then ((skirmishlaw04_awake.f kj11).bind fun t259 => (some t259)) else (some false)) else (some false)) else (some false)) else (some false)))) else (none)) else (none)))) else (none)) else (none)))) else (none)) else (none)) = some r := by first | (rw [hji31] at H; exact H) | (simp only [hji31] at H ⊢; exact H)
            by_cases c32 : 0 ≤ (ji31)
            · rw [if_pos c32] at H
              have c32b0 := eq_true c32
              have c32b1 : decide (0 ≤ (ji31)) = true := decide_eq_true c32
              clear c32
              by_cases c33 : (ji31) ≤ (t243.size : Int)
              · rw [if_pos c33] at H
                have c33b0 := eq_true c33
                have c33b1 : decide ((ji31) ≤ (t243.size : Int)) = true := decide_eq_true c33
                clear c33
                replace H := Option.bind_eq_some_iff.mp H
                obtain ⟨⟨t247, t248, t249⟩, A340, H⟩ := H
                replace H : (if (t244.size : Int) = 0 then (none) else (if 0 ≤ (Int.tmod (wrap64 ((IntKind.u64.wrap (a2)) / 2)) (t244.size : Int)) then (if (Int.tmod (wrap64 ((IntKind.u64.wrap (a2)) / 2)) (t244.size : Int)) ≤ (t244.size : Int) then ((wire_TakeInt.f kj11 (t244.extract 0 ((Int.tmod (wrap64 ((IntKind.u64.wrap (a2)) / 2)) (t244.size : Int)) : Int).toNat) 0).bind fun bt250 => (if (t245.size : Int) = 0 then (none) else (if 0 ≤ (Int.tmod (wrap64 ((IntKind.u64.wrap (a2)) / 2)) (t245.size : Int)) then (if (Int.tmod (wrap64 ((IntKind.u64.wrap (a2)) / 2)) (t245.size : Int)) ≤ (t245.size : Int) then ((wire_TakeText.f kj11 (t245.extract 0 ((Int.tmod (wrap64 ((IntKind.u64.wrap (a2)) / 2)) (t245.size : Int)) : Int).toNat) 0 2000).bind fun bt253 => ((wire_TakeBool.f kj11 (⟨#[]⟩ : ByteArray) 0).bind fun bt256 => (if t249 = 4 then (if bt250.2.2 = 4 then (if bt253.2.2 = 4 then (if bt256.2.2 = 4 then ((skirmishlaw04_awake.f kj11).bind fun t259 => (some t259)) else (some false)) else (some false)) else (some false)) else (some false)))) else (none)) else (none)))) else (none)) else (none))) = some r := H
                have A34 := Aside0.mk A340
                clear A340
                by_cases c35 : (t244.size : Int) = 0
                · rw [if_pos c35] at H
                  exact absurd H (by simp)
                · rw [if_neg c35] at H
                  have c35b0 : ((t244.size : Int) == 0) = false := beq_eq_false_iff_ne.mpr c35
                  have c35b1 : ((t244.size : Int) != 0) = true := bne_iff_ne.mpr c35
                  obtain ⟨ji36, hji36⟩ : ∃ j_ : Int, (Int.tmod (wrap64 ((IntKind.u64.wrap (a2)) / 2)) (t244.size : Int)) = j_ := ⟨_, rfl⟩
                  replace H : (if 0 ≤ (ji36) then (if (ji36) ≤ (t244.size : Int) then ((wire_TakeInt.f kj11 (t244.extract 0 ((ji36) : Int).toNat) 0).bind fun bt250 => (if (t245.size : Int) = 0 then (none) else (if 0 ≤ (Int.tmod (wrap64 ((IntKind.u64.wrap (a2)) / 2)) (t245.size : Int)) then (if (Int.tmod (wrap64 ((IntKind.u64.wrap (a2)) / 2)) (t245.size : Int)) ≤ (t245.size : Int) then ((wire_TakeText.f kj11 (t245.extract 0 ((Int.tmod (wrap64 ((IntKind.u64.wrap (a2)) / 2)) (t245.size : Int)) : Int).toNat) 0 2000).bind fun bt253 => ((wire_TakeBool.f kj11 (⟨#[]⟩ : ByteArray) 0).bind fun bt256 => (if t249 = 4 then (if bt250.2.2 = 4 then (if bt253.2.2 = 4 then (if bt256.2.2 = 4 then ((skirmishlaw04_awake.f kj11).bind fun t259 => (some t259)) else (some false)) else (some false)) else (some false)) else (some false)))) else (none)) else (none)))) else (none)) else (none)) = some r := by first | (rw [hji36] at H; exact H) | (simp only [hji36] at H ⊢; exact H)
                  (try rw [hji36] at A34)
                  by_cases c37 : 0 ≤ (ji36)
                  · rw [if_pos c37] at H
                    have c37b0 := eq_true c37
                    have c37b1 : decide (0 ≤ (ji36)) = true := decide_eq_true c37
                    clear c37
                    by_cases c38 : (ji36) ≤ (t244.size : Int)
                    · rw [if_pos c38] at H
                      have c38b0 := eq_true c38
                      have c38b1 : decide ((ji36) ≤ (t244.size : Int)) = true := decide_eq_true c38
                      clear c38
                      replace H := Option.bind_eq_some_iff.mp H
                      obtain ⟨⟨t250, t251, t252⟩, A390, H⟩ := H
                      replace H : (if (t245.size : Int) = 0 then (none) else (if 0 ≤ (Int.tmod (wrap64 ((IntKind.u64.wrap (a2)) / 2)) (t245.size : Int)) then (if (Int.tmod (wrap64 ((IntKind.u64.wrap (a2)) / 2)) (t245.size : Int)) ≤ (t245.size : Int) then ((wire_TakeText.f kj11 (t245.extract 0 ((Int.tmod (wrap64 ((IntKind.u64.wrap (a2)) / 2)) (t245.size : Int)) : Int).toNat) 0 2000).bind fun bt253 => ((wire_TakeBool.f kj11 (⟨#[]⟩ : ByteArray) 0).bind fun bt256 => (if t249 = 4 then (if t252 = 4 then (if bt253.2.2 = 4 then (if bt256.2.2 = 4 then ((skirmishlaw04_awake.f kj11).bind fun t259 => (some t259)) else (some false)) else (some false)) else (some false)) else (some false)))) else (none)) else (none))) = some r := H
                      have A39 := Aside0.mk A390
                      clear A390
                      by_cases c40 : (t245.size : Int) = 0
                      · rw [if_pos c40] at H
                        exact absurd H (by simp)
                      · rw [if_neg c40] at H
                        have c40b0 : ((t245.size : Int) == 0) = false := beq_eq_false_iff_ne.mpr c40
                        have c40b1 : ((t245.size : Int) != 0) = true := bne_iff_ne.mpr c40
                        obtain ⟨ji41, hji41⟩ : ∃ j_ : Int, (Int.tmod (wrap64 ((IntKind.u64.wrap (a2)) / 2)) (t245.size : Int)) = j_ := ⟨_, rfl⟩
                        replace H : (if 0 ≤ (ji41) then (if (ji41) ≤ (t245.size : Int) then ((wire_TakeText.f kj11 (t245.extract 0 ((ji41) : Int).toNat) 0 2000).bind fun bt253 => ((wire_TakeBool.f kj11 (⟨#[]⟩ : ByteArray) 0).bind fun bt256 => (if t249 = 4 then (if t252 = 4 then (if bt253.2.2 = 4 then (if bt256.2.2 = 4 then ((skirmishlaw04_awake.f kj11).bind fun t259 => (some t259)) else (some false)) else (some false)) else (some false)) else (some false)))) else (none)) else (none)) = some r := by first | (rw [hji41] at H; exact H) | (simp only [hji41] at H ⊢; exact H)
                        (try rw [hji41] at A34)
                        (try rw [hji41] at A39)
                        by_cases c42 : 0 ≤ (ji41)
                        · rw [if_pos c42] at H
                          have c42b0 := eq_true c42
                          have c42b1 : decide (0 ≤ (ji41)) = true := decide_eq_true c42
                          clear c42
                          by_cases c43 : (ji41) ≤ (t245.size : Int)
                          · rw [if_pos c43] at H
                            have c43b0 := eq_true c43
                            have c43b1 : decide ((ji41) ≤ (t245.size : Int)) = true := decide_eq_true c43
                            clear c43
                            replace H := Option.bind_eq_some_iff.mp H
                            obtain ⟨⟨t253, t254, t255⟩, A440, H⟩ := H
                            replace H : ((wire_TakeBool.f kj11 (⟨#[]⟩ : ByteArray) 0).bind fun bt256 => (if t249 = 4 then (if t252 = 4 then (if t255 = 4 then (if bt256.2.2 = 4 then ((skirmishlaw04_awake.f kj11).bind fun t259 => (some t259)) else (some false)) else (some false)) else (some false)) else (some false))) = some r := H
                            have A44 := Aside0.mk A440
                            clear A440
                            replace H := Option.bind_eq_some_iff.mp H
                            obtain ⟨⟨t256, t257, t258⟩, A450, H⟩ := H
                            replace H : (if t249 = 4 then (if t252 = 4 then (if t255 = 4 then (if t258 = 4 then ((skirmishlaw04_awake.f kj11).bind fun t259 => (some t259)) else (some false)) else (some false)) else (some false)) else (some false)) = some r := H
                            have A45 := Aside0.mk A450
                            clear A450
                            by_cases c46 : t249 = 4
                            · rw [if_pos c46] at H
                              have c46b0 : (t249 == 4) = true := beq_iff_eq.mpr c46
                              have c46b1 : (t249 != 4) = false := bne_eq_false_iff_eq.mpr c46
                              clear c46
                              by_cases c47 : t252 = 4
                              · rw [if_pos c47] at H
                                have c47b0 : (t252 == 4) = true := beq_iff_eq.mpr c47
                                have c47b1 : (t252 != 4) = false := bne_eq_false_iff_eq.mpr c47
                                clear c47
                                by_cases c48 : t255 = 4
                                · rw [if_pos c48] at H
                                  have c48b0 : (t255 == 4) = true := beq_iff_eq.mpr c48
                                  have c48b1 : (t255 != 4) = false := bne_eq_false_iff_eq.mpr c48
                                  clear c48
                                  by_cases c49 : t258 = 4
                                  · rw [if_pos c49] at H
                                    have c49b0 : (t258 == 4) = true := beq_iff_eq.mpr c49
                                    have c49b1 : (t258 != 4) = false := bne_eq_false_iff_eq.mpr c49
                                    clear c49
                                    replace H := Option.bind_eq_some_iff.mp H
                                    obtain ⟨t259, A500, H⟩ := H
                                    replace H : (some t259) = some r := H
                                    have A50 := Aside0.mk A500
                                    clear A500
                                    obtain rfl := Option.some.inj H
                                    go_wp2_with (first | ((with_reducible refine gate_callee (f := 10) rfl ?_); refine goesL_ (some 85) rfl rfl Try.func10 (by kernel_rfl) rfl #[.string (t243.extract 0 ((ji31) : Int).toNat), .int .i64 0] rfl (by (try simp only [List.map_toArray, List.map_cons, List.map_nil]); first | done | (simp only [hji31]; rfl) | rfl | (simp only [List.length_drop, List.length_take]; rfl)) ?_; (with_reducible refine (wire_TakeUint.calls kj11 (t243.extract 0 ((ji31) : Int).toNat) 0 t247 t248 t249 _ A34.out).mono ?_); rintro e w' ⟨rfl, ⟨nd, rfl⟩⟩; refine ⟨_, rfl, ?_⟩) | ((with_reducible refine gate_callee (f := 14) rfl ?_); refine goesL_ (some 96) rfl rfl Try.func14 (by kernel_rfl) rfl #[.string (t244.extract 0 ((ji36) : Int).toNat), .int .i64 0] rfl (by (try simp only [List.map_toArray, List.map_cons, List.map_nil]); first | done | (simp only [hji36]; rfl) | rfl | (simp only [List.length_drop, List.length_take]; rfl)) ?_; (with_reducible refine (wire_TakeInt.calls kj11 (t244.extract 0 ((ji36) : Int).toNat) 0 t250 t251 t252 _ A39.out).mono ?_); rintro e w' ⟨rfl, ⟨nd, rfl⟩⟩; refine ⟨_, rfl, ?_⟩) | ((with_reducible refine gate_callee (f := 18) rfl ?_); refine goesL_ (some 107) rfl rfl Try.func18 (by kernel_rfl) rfl #[.string (t245.extract 0 ((ji41) : Int).toNat), .int .i64 0, .int .i64 2000] rfl (by (try simp only [List.map_toArray, List.map_cons, List.map_nil]); first | done | (simp only [hji41]; rfl) | rfl | (simp only [List.length_drop, List.length_take]; rfl)) ?_; (with_reducible refine (wire_TakeText.calls kj11 (t245.extract 0 ((ji41) : Int).toNat) 0 2000 t253 t254 t255 _ A44.out).mono ?_); rintro e w51 ⟨rfl, hb⟩; refine ⟨_, rfl, ?_⟩; have n0_ := Aside0.mk (blk_below (g := gb241) (o := .cells #[.int .u64 a0_0, .int .i64 a0_1, .bool a0_2, .string a0_3] 39 (0, 0)) (by (with_reducible repeat (first | refine blk_drewN ?_ _ | refine blk_drew ?_ | refine blk_alloc ?_ _)); exact BK241.out) hb); have n1_ := Aside0.mk (below_step (by repeat (first | (with_reducible first | exact HB.out | apply below_alloc | apply pw_below_drewN | apply below_drew1 | refine below_set ?_ GE241.out) | exact HB.out)) hb); clear BK241; clear HB; have BK241 := n0_; have HB := n1_; clear n0_ n1_; (try clear hb); (try clear hb2); (try clear hk); (try clear hi)) | ((with_reducible refine gate_callee (f := 25) rfl ?_); refine goesL_ (some 112) rfl rfl Try.func25 (by kernel_rfl) rfl #[.string (⟨#[]⟩ : ByteArray), .int .i64 0] rfl (by (try simp only [List.map_toArray, List.map_cons, List.map_nil]); first | done | rfl | (simp only [List.length_drop, List.length_take]; rfl)) ?_; (with_reducible refine (wire_TakeBool.calls kj11 (⟨#[]⟩ : ByteArray) 0 t256 t257 t258 _ A45.out).mono ?_); rintro e w' ⟨rfl, ⟨nd, rfl⟩⟩; refine ⟨_, rfl, ?_⟩) | (go_at_call 9; (with_reducible refine (skirmishlaw04_awake.calls kj11  t259 _ A50.out).mono ?_); rintro e w52 ⟨rfl, hb⟩; have n0_ := Aside0.mk (blk_below (g := gb241) (o := .cells #[.int .u64 a0_0, .int .i64 a0_1, .bool a0_2, .string a0_3] 39 (0, 0)) (by (with_reducible repeat (first | refine blk_drewN ?_ _ | refine blk_drew ?_ | refine blk_alloc ?_ _)); exact BK241.out) hb); have n1_ := Aside0.mk (below_step (by repeat (first | (with_reducible first | exact HB.out | apply below_alloc | apply pw_below_drewN | apply below_drew1 | refine below_set ?_ GE241.out) | exact HB.out)) hb); clear BK241; clear HB; have BK241 := n0_; have HB := n1_; clear n0_ n1_; (try clear hb); (try clear hb2); (try clear hk); (try clear hi)))
                                    go_ret
                                    exact ⟨by first | rfl | (simp [errW_none, errW_some] <;> rfl) | (simp only [← hji31, ← hji36, ← hji41]; first | rfl | (simp [errW_none, errW_some] <;> rfl)) | (simp [*, errW_none, errW_some] <;> rfl), by repeat (first | (with_reducible first | exact HB.out | apply below_alloc | apply pw_below_drewN | apply below_drew1 | refine below_set ?_ GE241.out) | exact HB.out)⟩
                                  · rw [if_neg c49] at H
                                    have c49b0 : (t258 == 4) = false := beq_eq_false_iff_ne.mpr c49
                                    have c49b1 : (t258 != 4) = true := bne_iff_ne.mpr c49
                                    obtain rfl := Option.some.inj H
                                    go_wp2_with (first | ((with_reducible refine gate_callee (f := 10) rfl ?_); refine goesL_ (some 85) rfl rfl Try.func10 (by kernel_rfl) rfl #[.string (t243.extract 0 ((ji31) : Int).toNat), .int .i64 0] rfl (by (try simp only [List.map_toArray, List.map_cons, List.map_nil]); first | done | (simp only [hji31]; rfl) | rfl | (simp only [List.length_drop, List.length_take]; rfl)) ?_; (with_reducible refine (wire_TakeUint.calls kj11 (t243.extract 0 ((ji31) : Int).toNat) 0 t247 t248 t249 _ A34.out).mono ?_); rintro e w' ⟨rfl, ⟨nd, rfl⟩⟩; refine ⟨_, rfl, ?_⟩) | ((with_reducible refine gate_callee (f := 14) rfl ?_); refine goesL_ (some 96) rfl rfl Try.func14 (by kernel_rfl) rfl #[.string (t244.extract 0 ((ji36) : Int).toNat), .int .i64 0] rfl (by (try simp only [List.map_toArray, List.map_cons, List.map_nil]); first | done | (simp only [hji36]; rfl) | rfl | (simp only [List.length_drop, List.length_take]; rfl)) ?_; (with_reducible refine (wire_TakeInt.calls kj11 (t244.extract 0 ((ji36) : Int).toNat) 0 t250 t251 t252 _ A39.out).mono ?_); rintro e w' ⟨rfl, ⟨nd, rfl⟩⟩; refine ⟨_, rfl, ?_⟩) | ((with_reducible refine gate_callee (f := 18) rfl ?_); refine goesL_ (some 107) rfl rfl Try.func18 (by kernel_rfl) rfl #[.string (t245.extract 0 ((ji41) : Int).toNat), .int .i64 0, .int .i64 2000] rfl (by (try simp only [List.map_toArray, List.map_cons, List.map_nil]); first | done | (simp only [hji41]; rfl) | rfl | (simp only [List.length_drop, List.length_take]; rfl)) ?_; (with_reducible refine (wire_TakeText.calls kj11 (t245.extract 0 ((ji41) : Int).toNat) 0 2000 t253 t254 t255 _ A44.out).mono ?_); rintro e w53 ⟨rfl, hb⟩; refine ⟨_, rfl, ?_⟩; have n0_ := Aside0.mk (blk_below (g := gb241) (o := .cells #[.int .u64 a0_0, .int .i64 a0_1, .bool a0_2, .string a0_3] 39 (0, 0)) (by (with_reducible repeat (first | refine blk_drewN ?_ _ | refine blk_drew ?_ | refine blk_alloc ?_ _)); exact BK241.out) hb); have n1_ := Aside0.mk (below_step (by repeat (first | (with_reducible first | exact HB.out | apply below_alloc | apply pw_below_drewN | apply below_drew1 | refine below_set ?_ GE241.out) | exact HB.out)) hb); clear BK241; clear HB; have BK241 := n0_; have HB := n1_; clear n0_ n1_; (try clear hb); (try clear hb2); (try clear hk); (try clear hi)) | ((with_reducible refine gate_callee (f := 25) rfl ?_); refine goesL_ (some 112) rfl rfl Try.func25 (by kernel_rfl) rfl #[.string (⟨#[]⟩ : ByteArray), .int .i64 0] rfl (by (try simp only [List.map_toArray, List.map_cons, List.map_nil]); first | done | rfl | (simp only [List.length_drop, List.length_take]; rfl)) ?_; (with_reducible refine (wire_TakeBool.calls kj11 (⟨#[]⟩ : ByteArray) 0 t256 t257 t258 _ A45.out).mono ?_); rintro e w' ⟨rfl, ⟨nd, rfl⟩⟩; refine ⟨_, rfl, ?_⟩))
                                    go_ret
                                    exact ⟨by first | rfl | (simp [errW_none, errW_some] <;> rfl) | (simp only [← hji31, ← hji36, ← hji41]; first | rfl | (simp [errW_none, errW_some] <;> rfl)) | (simp [*, errW_none, errW_some] <;> rfl), by repeat (first | (with_reducible first | exact HB.out | apply below_alloc | apply pw_below_drewN | apply below_drew1 | refine below_set ?_ GE241.out) | exact HB.out)⟩
                                · rw [if_neg c48] at H
                                  have c48b0 : (t255 == 4) = false := beq_eq_false_iff_ne.mpr c48
                                  have c48b1 : (t255 != 4) = true := bne_iff_ne.mpr c48
                                  obtain rfl := Option.some.inj H
                                  go_wp2_with (first | ((with_reducible refine gate_callee (f := 10) rfl ?_); refine goesL_ (some 85) rfl rfl Try.func10 (by kernel_rfl) rfl #[.string (t243.extract 0 ((ji31) : Int).toNat), .int .i64 0] rfl (by (try simp only [List.map_toArray, List.map_cons, List.map_nil]); first | done | (simp only [hji31]; rfl) | rfl | (simp only [List.length_drop, List.length_take]; rfl)) ?_; (with_reducible refine (wire_TakeUint.calls kj11 (t243.extract 0 ((ji31) : Int).toNat) 0 t247 t248 t249 _ A34.out).mono ?_); rintro e w' ⟨rfl, ⟨nd, rfl⟩⟩; refine ⟨_, rfl, ?_⟩) | ((with_reducible refine gate_callee (f := 14) rfl ?_); refine goesL_ (some 96) rfl rfl Try.func14 (by kernel_rfl) rfl #[.string (t244.extract 0 ((ji36) : Int).toNat), .int .i64 0] rfl (by (try simp only [List.map_toArray, List.map_cons, List.map_nil]); first | done | (simp only [hji36]; rfl) | rfl | (simp only [List.length_drop, List.length_take]; rfl)) ?_; (with_reducible refine (wire_TakeInt.calls kj11 (t244.extract 0 ((ji36) : Int).toNat) 0 t250 t251 t252 _ A39.out).mono ?_); rintro e w' ⟨rfl, ⟨nd, rfl⟩⟩; refine ⟨_, rfl, ?_⟩) | ((with_reducible refine gate_callee (f := 18) rfl ?_); refine goesL_ (some 107) rfl rfl Try.func18 (by kernel_rfl) rfl #[.string (t245.extract 0 ((ji41) : Int).toNat), .int .i64 0, .int .i64 2000] rfl (by (try simp only [List.map_toArray, List.map_cons, List.map_nil]); first | done | (simp only [hji41]; rfl) | rfl | (simp only [List.length_drop, List.length_take]; rfl)) ?_; (with_reducible refine (wire_TakeText.calls kj11 (t245.extract 0 ((ji41) : Int).toNat) 0 2000 t253 t254 t255 _ A44.out).mono ?_); rintro e w54 ⟨rfl, hb⟩; refine ⟨_, rfl, ?_⟩; have n0_ := Aside0.mk (blk_below (g := gb241) (o := .cells #[.int .u64 a0_0, .int .i64 a0_1, .bool a0_2, .string a0_3] 39 (0, 0)) (by (with_reducible repeat (first | refine blk_drewN ?_ _ | refine blk_drew ?_ | refine blk_alloc ?_ _)); exact BK241.out) hb); have n1_ := Aside0.mk (below_step (by repeat (first | (with_reducible first | exact HB.out | apply below_alloc | apply pw_below_drewN | apply below_drew1 | refine below_set ?_ GE241.out) | exact HB.out)) hb); clear BK241; clear HB; have BK241 := n0_; have HB := n1_; clear n0_ n1_; (try clear hb); (try clear hb2); (try clear hk); (try clear hi)) | ((with_reducible refine gate_callee (f := 25) rfl ?_); refine goesL_ (some 112) rfl rfl Try.func25 (by kernel_rfl) rfl #[.string (⟨#[]⟩ : ByteArray), .int .i64 0] rfl (by (try simp only [List.map_toArray, List.map_cons, List.map_nil]); first | done | rfl | (simp only [List.length_drop, List.length_take]; rfl)) ?_; (with_reducible refine (wire_TakeBool.calls kj11 (⟨#[]⟩ : ByteArray) 0 t256 t257 t258 _ A45.out).mono ?_); rintro e w' ⟨rfl, ⟨nd, rfl⟩⟩; refine ⟨_, rfl, ?_⟩))
                                  go_ret
                                  exact ⟨by first | rfl | (simp [errW_none, errW_some] <;> rfl) | (simp only [← hji31, ← hji36, ← hji41]; first | rfl | (simp [errW_none, errW_some] <;> rfl)) | (simp [*, errW_none, errW_some] <;> rfl), by repeat (first | (with_reducible first | exact HB.out | apply below_alloc | apply pw_below_drewN | apply below_drew1 | refine below_set ?_ GE241.out) | exact HB.out)⟩
                              · rw [if_neg c47] at H
                                have c47b0 : (t252 == 4) = false := beq_eq_false_iff_ne.mpr c47
                                have c47b1 : (t252 != 4) = true := bne_iff_ne.mpr c47
                                obtain rfl := Option.some.inj H
                                go_wp2_with (first | ((with_reducible refine gate_callee (f := 10) rfl ?_); refine goesL_ (some 85) rfl rfl Try.func10 (by kernel_rfl) rfl #[.string (t243.extract 0 ((ji31) : Int).toNat), .int .i64 0] rfl (by (try simp only [List.map_toArray, List.map_cons, List.map_nil]); first | done | (simp only [hji31]; rfl) | rfl | (simp only [List.length_drop, List.length_take]; rfl)) ?_; (with_reducible refine (wire_TakeUint.calls kj11 (t243.extract 0 ((ji31) : Int).toNat) 0 t247 t248 t249 _ A34.out).mono ?_); rintro e w' ⟨rfl, ⟨nd, rfl⟩⟩; refine ⟨_, rfl, ?_⟩) | ((with_reducible refine gate_callee (f := 14) rfl ?_); refine goesL_ (some 96) rfl rfl Try.func14 (by kernel_rfl) rfl #[.string (t244.extract 0 ((ji36) : Int).toNat), .int .i64 0] rfl (by (try simp only [List.map_toArray, List.map_cons, List.map_nil]); first | done | (simp only [hji36]; rfl) | rfl | (simp only [List.length_drop, List.length_take]; rfl)) ?_; (with_reducible refine (wire_TakeInt.calls kj11 (t244.extract 0 ((ji36) : Int).toNat) 0 t250 t251 t252 _ A39.out).mono ?_); rintro e w' ⟨rfl, ⟨nd, rfl⟩⟩; refine ⟨_, rfl, ?_⟩) | ((with_reducible refine gate_callee (f := 18) rfl ?_); refine goesL_ (some 107) rfl rfl Try.func18 (by kernel_rfl) rfl #[.string (t245.extract 0 ((ji41) : Int).toNat), .int .i64 0, .int .i64 2000] rfl (by (try simp only [List.map_toArray, List.map_cons, List.map_nil]); first | done | (simp only [hji41]; rfl) | rfl | (simp only [List.length_drop, List.length_take]; rfl)) ?_; (with_reducible refine (wire_TakeText.calls kj11 (t245.extract 0 ((ji41) : Int).toNat) 0 2000 t253 t254 t255 _ A44.out).mono ?_); rintro e w55 ⟨rfl, hb⟩; refine ⟨_, rfl, ?_⟩; have n0_ := Aside0.mk (blk_below (g := gb241) (o := .cells #[.int .u64 a0_0, .int .i64 a0_1, .bool a0_2, .string a0_3] 39 (0, 0)) (by (with_reducible repeat (first | refine blk_drewN ?_ _ | refine blk_drew ?_ | refine blk_alloc ?_ _)); exact BK241.out) hb); have n1_ := Aside0.mk (below_step (by repeat (first | (with_reducible first | exact HB.out | apply below_alloc | apply pw_below_drewN | apply below_drew1 | refine below_set ?_ GE241.out) | exact HB.out)) hb); clear BK241; clear HB; have BK241 := n0_; have HB := n1_; clear n0_ n1_; (try clear hb); (try clear hb2); (try clear hk); (try clear hi)) | ((with_reducible refine gate_callee (f := 25) rfl ?_); refine goesL_ (some 112) rfl rfl Try.func25 (by kernel_rfl) rfl #[.string (⟨#[]⟩ : ByteArray), .int .i64 0] rfl (by (try simp only [List.map_toArray, List.map_cons, List.map_nil]); first | done | rfl | (simp only [List.length_drop, List.length_take]; rfl)) ?_; (with_reducible refine (wire_TakeBool.calls kj11 (⟨#[]⟩ : ByteArray) 0 t256 t257 t258 _ A45.out).mono ?_); rintro e w' ⟨rfl, ⟨nd, rfl⟩⟩; refine ⟨_, rfl, ?_⟩))
                                go_ret
                                exact ⟨by first | rfl | (simp [errW_none, errW_some] <;> rfl) | (simp only [← hji31, ← hji36, ← hji41]; first | rfl | (simp [errW_none, errW_some] <;> rfl)) | (simp [*, errW_none, errW_some] <;> rfl), by repeat (first | (with_reducible first | exact HB.out | apply below_alloc | apply pw_below_drewN | apply below_drew1 | refine below_set ?_ GE241.out) | exact HB.out)⟩
                            · rw [if_neg c46] at H
                              have c46b0 : (t249 == 4) = false := beq_eq_false_iff_ne.mpr c46
                              have c46b1 : (t249 != 4) = true := bne_iff_ne.mpr c46
                              obtain rfl := Option.some.inj H
                              go_wp2_with (first | ((with_reducible refine gate_callee (f := 10) rfl ?_); refine goesL_ (some 85) rfl rfl Try.func10 (by kernel_rfl) rfl #[.string (t243.extract 0 ((ji31) : Int).toNat), .int .i64 0] rfl (by (try simp only [List.map_toArray, List.map_cons, List.map_nil]); first | done | (simp only [hji31]; rfl) | rfl | (simp only [List.length_drop, List.length_take]; rfl)) ?_; (with_reducible refine (wire_TakeUint.calls kj11 (t243.extract 0 ((ji31) : Int).toNat) 0 t247 t248 t249 _ A34.out).mono ?_); rintro e w' ⟨rfl, ⟨nd, rfl⟩⟩; refine ⟨_, rfl, ?_⟩) | ((with_reducible refine gate_callee (f := 14) rfl ?_); refine goesL_ (some 96) rfl rfl Try.func14 (by kernel_rfl) rfl #[.string (t244.extract 0 ((ji36) : Int).toNat), .int .i64 0] rfl (by (try simp only [List.map_toArray, List.map_cons, List.map_nil]); first | done | (simp only [hji36]; rfl) | rfl | (simp only [List.length_drop, List.length_take]; rfl)) ?_; (with_reducible refine (wire_TakeInt.calls kj11 (t244.extract 0 ((ji36) : Int).toNat) 0 t250 t251 t252 _ A39.out).mono ?_); rintro e w' ⟨rfl, ⟨nd, rfl⟩⟩; refine ⟨_, rfl, ?_⟩) | ((with_reducible refine gate_callee (f := 18) rfl ?_); refine goesL_ (some 107) rfl rfl Try.func18 (by kernel_rfl) rfl #[.string (t245.extract 0 ((ji41) : Int).toNat), .int .i64 0, .int .i64 2000] rfl (by (try simp only [List.map_toArray, List.map_cons, List.map_nil]); first | done | (simp only [hji41]; rfl) | rfl | (simp only [List.length_drop, List.length_take]; rfl)) ?_; (with_reducible refine (wire_TakeText.calls kj11 (t245.extract 0 ((ji41) : Int).toNat) 0 2000 t253 t254 t255 _ A44.out).mono ?_); rintro e w56 ⟨rfl, hb⟩; refine ⟨_, rfl, ?_⟩; have n0_ := Aside0.mk (blk_below (g := gb241) (o := .cells #[.int .u64 a0_0, .int .i64 a0_1, .bool a0_2, .string a0_3] 39 (0, 0)) (by (with_reducible repeat (first | refine blk_drewN ?_ _ | refine blk_drew ?_ | refine blk_alloc ?_ _)); exact BK241.out) hb); have n1_ := Aside0.mk (below_step (by repeat (first | (with_reducible first | exact HB.out | apply below_alloc | apply pw_below_drewN | apply below_drew1 | refine below_set ?_ GE241.out) | exact HB.out)) hb); clear BK241; clear HB; have BK241 := n0_; have HB := n1_; clear n0_ n1_; (try clear hb); (try clear hb2); (try clear hk); (try clear hi)) | ((with_reducible refine gate_callee (f := 25) rfl ?_); refine goesL_ (some 112) rfl rfl Try.func25 (by kernel_rfl) rfl #[.string (⟨#[]⟩ : ByteArray), .int .i64 0] rfl (by (try simp only [List.map_toArray, List.map_cons, List.map_nil]); first | done | rfl | (simp only [List.length_drop, List.length_take]; rfl)) ?_; (with_reducible refine (wire_TakeBool.calls kj11 (⟨#[]⟩ : ByteArray) 0 t256 t257 t258 _ A45.out).mono ?_); rintro e w' ⟨rfl, ⟨nd, rfl⟩⟩; refine ⟨_, rfl, ?_⟩))
                              go_ret
                              exact ⟨by first | rfl | (simp [errW_none, errW_some] <;> rfl) | (simp only [← hji31, ← hji36, ← hji41]; first | rfl | (simp [errW_none, errW_some] <;> rfl)) | (simp [*, errW_none, errW_some] <;> rfl), by repeat (first | (with_reducible first | exact HB.out | apply below_alloc | apply pw_below_drewN | apply below_drew1 | refine below_set ?_ GE241.out) | exact HB.out)⟩
                          · rw [if_neg c43] at H
                            exact absurd H (by simp)
                        · rw [if_neg c42] at H
                          exact absurd H (by simp)
                    · rw [if_neg c38] at H
                      exact absurd H (by simp)
                  · rw [if_neg c37] at H
                    exact absurd H (by simp)
              · rw [if_neg c33] at H
                exact absurd H (by simp)
            · rw [if_neg c32] at H
              exact absurd H (by simp)

end Go.Proofs.Ytdjndjgafdfkaaa.F
