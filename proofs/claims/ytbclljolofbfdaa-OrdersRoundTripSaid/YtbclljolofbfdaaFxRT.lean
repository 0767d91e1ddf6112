/- Functions that the laws of this seat reach: for each a plain function, and a proof that the Go code comes to its answers. Out of the kit's print program; mended by hand where it fell. -/
import Derived.Test.YtbclljolofbfdaaFx0
import Derived.Test.YtbclljolofbfdaaFx3
import Derived.Test.YtbclljolofbfdaaFx6
import Derived.Test.YtbclljolofbfdaaFx8
import Derived.Test.YtbclljolofbfdaaFx10
import Derived.Test.YtbclljolofbfdaaFx11
namespace Go.Proofs.Ytbclljolofbfdaa.F
open Go.RowKit Go.Proofs.YtbclljolofbfdaaW.PrintWords Go.Proofs.YtbclljolofbfdaaW.PrintLast Go.Proofs.YtbclljolofbfdaaW.PrintMore
attribute [local go_sem] max2_int min2_int max_two min_two max_three min_three max_four min_four   -- for this text's walks alone
set_option linter.unusedVariables false
set_option linter.unusedSimpArgs false

/-! ### skirmishlaw20_OrdersRoundTrip: function 3 -/
mutual
def skirmishlaw20_OrdersRoundTrip.j0 : Nat → List (S28) → ByteArray → ByteArray → Bool → Option (Bool)
  | 0, _, _, _, _ => none
  | k + 1, x0, x1, x2, x24 => if x24 = true then ((skirmishlaw20_alive.f k).bind fun t245 => (some t245)) else (skirmishlaw20_OrdersRoundTrip.l0 k x0 x1 x2 (x0.length : Int) 0)
def skirmishlaw20_OrdersRoundTrip.l0 : Nat → List (S28) → ByteArray → ByteArray → Int → Int → Option (Bool)
  | 0, _, _, _, _, _ => none
  | k + 1, x0, x1, x2, x27, x28 => if x28 < x27 then (if 0 ≤ x28 then (if x28 < (x0.length : Int) then ((skirmishref20_Valid.f k ((rd_T28 x0 x28).f0) ((rd_T28 x0 x28).f1.f0) ((rd_T28 x0 x28).f1.f1) ((rd_T28 x0 x28).f2) ((rd_T28 x0 x28).f3)).bind fun t247 => (if t247 = true then (skirmishlaw20_OrdersRoundTrip.l0 k x0 x1 x2 x27 (wrap64 (x28 + 1))) else ((skirmishlaw20_alive.f k).bind fun t248 => (some t248)))) else (none)) else (none)) else ((orders_Encode.f k x0).bind fun t249 => (if x1.size + t249.size ≤ 9223372036854775807 then (if (x1 ++ t249).size + x2.size ≤ 9223372036854775807 then ((orders_Decode.f k ((x1 ++ t249) ++ x2) (x1.size : Int)).bind fun bt250 => (if bt250.2.2 = 0 then (if bt250.2.1 = (wrap64 ((x1.size : Int) + (t249.size : Int))) then ((skirmishref20_Same.f k x0 bt250.1).bind fun t255 => (if t255 = true then ((skirmishlaw20_alive.f k).bind fun t256 => (some t256)) else (some false))) else (some false)) else (some false))) else (none)) else (none)))
end
def skirmishlaw20_OrdersRoundTrip.f (k : Nat) (l0 : List (S28)) (a1 : ByteArray) (a2 : ByteArray) : Option (Bool) := if (l0.length : Int) > 8 then (skirmishlaw20_OrdersRoundTrip.j0 k l0 a1 a2 true) else (if (a1.size : Int) > 1000 then (skirmishlaw20_OrdersRoundTrip.j0 k l0 a1 a2 true) else (skirmishlaw20_OrdersRoundTrip.j0 k l0 a1 a2 (decide ((a2.size : Int) > 1000))))
theorem skirmishlaw20_OrdersRoundTrip.mono_l : ∀ k, (∀ y0 y1 y2 y3, LeO (skirmishlaw20_OrdersRoundTrip.j0 k y0 y1 y2 y3) (skirmishlaw20_OrdersRoundTrip.j0 (k + 1) y0 y1 y2 y3)) ∧ (∀ y0 y1 y2 y3 y4, LeO (skirmishlaw20_OrdersRoundTrip.l0 k y0 y1 y2 y3 y4) (skirmishlaw20_OrdersRoundTrip.l0 (k + 1) y0 y1 y2 y3 y4))
  | 0 => ⟨fun _ _ _ _ r h => by simp [skirmishlaw20_OrdersRoundTrip.j0] at h, fun _ _ _ _ _ r h => by simp [skirmishlaw20_OrdersRoundTrip.l0] at h⟩
  | k + 1 => by
    obtain ⟨ih0, ih1⟩ := skirmishlaw20_OrdersRoundTrip.mono_l k
    refine ⟨?_, ?_⟩
    · intro y0 y1 y2 y3
      unfold skirmishlaw20_OrdersRoundTrip.j0
      repeat' first
      | (with_reducible exact ih0 _ _ _ _)
      | (with_reducible exact ih1 _ _ _ _ _)
      | (with_reducible exact orders_Decode.mono _ _ _)
      | (with_reducible exact orders_Encode.mono _ _)
      | (with_reducible exact skirmishlaw20_alive.mono _)
      | (with_reducible exact skirmishref20_Same.mono _ _ _)
      | (with_reducible exact skirmishref20_Valid.mono _ _ _ _ _ _)
      | (with_reducible exact LeO.refl _)
      | (with_reducible exact LeO.none _)
      | (with_reducible refine LeO.ite ?_ ?_)
      | (with_reducible refine LeO.bind ?_ (fun _ => ?_))
      | exact ih0 _ _ _ _
      | exact ih1 _ _ _ _ _
      | exact orders_Decode.mono _ _ _
      | exact orders_Encode.mono _ _
      | exact skirmishlaw20_alive.mono _
      | exact skirmishref20_Same.mono _ _ _
      | exact skirmishref20_Valid.mono _ _ _ _ _ _
      | exact LeO.none _
      | refine LeO.ite ?_ ?_
      | refine LeO.bind ?_ (fun _ => ?_)
    · intro y0 y1 y2 y3 y4
      unfold skirmishlaw20_OrdersRoundTrip.l0
      repeat' first
      | (with_reducible exact ih0 _ _ _ _)
      | (with_reducible exact ih1 _ _ _ _ _)
      | (with_reducible exact orders_Decode.mono _ _ _)
      | (with_reducible exact orders_Encode.mono _ _)
      | (with_reducible exact skirmishlaw20_alive.mono _)
      | (with_reducible exact skirmishref20_Same.mono _ _ _)
      | (with_reducible exact skirmishref20_Valid.mono _ _ _ _ _ _)
      | (with_reducible exact LeO.refl _)
      | (with_reducible exact LeO.none _)
      | (with_reducible refine LeO.ite ?_ ?_)
      | (with_reducible refine LeO.bind ?_ (fun _ => ?_))
      | exact ih0 _ _ _ _
      | exact ih1 _ _ _ _ _
      | exact orders_Decode.mono _ _ _
      | exact orders_Encode.mono _ _
      | exact skirmishlaw20_alive.mono _
      | exact skirmishref20_Same.mono _ _ _
      | exact skirmishref20_Valid.mono _ _ _ _ _ _
      | exact LeO.none _
      | refine LeO.ite ?_ ?_
      | refine LeO.bind ?_ (fun _ => ?_)
theorem skirmishlaw20_OrdersRoundTrip.mono : ∀ a0 a1 a2 k, LeO (skirmishlaw20_OrdersRoundTrip.f k a0 a1 a2) (skirmishlaw20_OrdersRoundTrip.f (k + 1) a0 a1 a2) := by
  intro a0 a1 a2 k
  obtain ⟨ih0, ih1⟩ := skirmishlaw20_OrdersRoundTrip.mono_l k
  unfold skirmishlaw20_OrdersRoundTrip.f
  repeat' first
      | (with_reducible exact ih0 _ _ _ _)
      | (with_reducible exact ih1 _ _ _ _ _)
      | (with_reducible exact orders_Decode.mono _ _ _)
      | (with_reducible exact orders_Encode.mono _ _)
      | (with_reducible exact skirmishlaw20_alive.mono _)
      | (with_reducible exact skirmishref20_Same.mono _ _ _)
      | (with_reducible exact skirmishref20_Valid.mono _ _ _ _ _ _)
      | (with_reducible exact LeO.refl _)
      | (with_reducible exact LeO.none _)
      | (with_reducible refine LeO.ite ?_ ?_)
      | (with_reducible refine LeO.bind ?_ (fun _ => ?_))
      | exact ih0 _ _ _ _
      | exact ih1 _ _ _ _ _
      | exact orders_Decode.mono _ _ _
      | exact orders_Encode.mono _ _
      | exact skirmishlaw20_alive.mono _
      | exact skirmishref20_Same.mono _ _ _
      | exact skirmishref20_Valid.mono _ _ _ _ _ _
      | exact LeO.none _
      | refine LeO.ite ?_ ?_
      | refine LeO.bind ?_ (fun _ => ?_)
set_option maxHeartbeats 8000000 in
set_option maxRecDepth 100000 in
theorem skirmishlaw20_OrdersRoundTrip.calls (k : Nat) (A0 : Option Addr) (c0 : Nat) (l0 : List (S28)) (a1 : ByteArray) (a2 : ByteArray) (r : Bool) (hr : r = true) (w : World) (hr0 : Kd.C k28 w A0 l0.length l0) (hc0 : l0.length ≤ c0) (h : skirmishlaw20_OrdersRoundTrip.f k l0 a1 a2 = some r) :
    Calls Try.prog 3 #[.slice A0 l0.length c0, .string a1, .string a2] w fun e w' => e = .returned (.bool r) ∧ Below w.heap.size w w' := by
  have Hr := Aside0.mk hr
  clear hr
  have hu28 := Try.underlying28
  have HR0 := Aside0.mk hr0
  have HC0 := Aside0.mk hc0
  clear hr0 hc0
  have HB := Aside0.mk (Below.refl w.heap.size w)
  have H : (if (l0.length : Int) > 8 then (skirmishlaw20_OrdersRoundTrip.j0 k l0 a1 a2 true) else (if (a1.size : Int) > 1000 then (skirmishlaw20_OrdersRoundTrip.j0 k l0 a1 a2 true) else (skirmishlaw20_OrdersRoundTrip.j0 k l0 a1 a2 (decide ((a2.size : Int) > 1000))))) = some r := h
  clear h
  have HC4 := Aside0.mk H
  clear H
  go_enter Try.func3, Try.ntmps3
  go_upto_region 1 with (fail)
  go_cut [24] (fun v24 wc => ∃ (kq : Nat) (x24_3 : Bool), v24 = .bool x24_3 ∧ Aside0 (skirmishlaw20_OrdersRoundTrip.j0 kq l0 a1 a2 x24_3 = some r) ∧ Aside0 (kq ≤ k) ∧ Aside0 (Below w.heap.size w wc))
  case first =>
    have H := HC4.out
    clear HC4
    by_cases c5 : (l0.length : Int) > 8
    · rw [if_pos c5] at H
      have c5b0 : decide (8 < (l0.length : Int)) = true := decide_eq_true c5
      have c5b1 : decide (8 < l0.length) = true := decide_eq_true (by omega)
      clear c5
      (first | rw [c5b0] | (simp only [i64_w, i32_w]; rw [c5b0]) | skip)
      have H' := Aside0.mk H
      clear H
      go_wp2
      go_meet
      case rel => exact ⟨_, (true), (by first | rfl | (simp; done) | (simp [*]; done)), H', ⟨by first | omega | exact Nat.le_refl _⟩, ⟨by repeat (first | (with_reducible first | exact HB.out | apply below_alloc | apply pw_below_drewN | apply below_drew1) | exact HB.out)⟩⟩
    · rw [if_neg c5] at H
      have c5b0 : decide (8 < (l0.length : Int)) = false := decide_eq_false c5
      have c5b1 : decide (8 < l0.length) = false := decide_eq_false (by omega)
      clear c5
      (first | rw [c5b0] | (simp only [i64_w, i32_w]; rw [c5b0]) | skip)
      by_cases c6 : (a1.size : Int) > 1000
      · rw [if_pos c6] at H
        have c6b0 : decide (1000 < (a1.size : Int)) = true := decide_eq_true c6
        have c6b1 : decide (1000 < a1.size) = true := decide_eq_true (by omega)
        clear c6
        have H' := Aside0.mk H
        clear H
        go_wp2
        go_meet
        case rel => exact ⟨_, (true), (by first | rfl | (simp; done) | (simp [*]; done)), H', ⟨by first | omega | exact Nat.le_refl _⟩, ⟨by repeat (first | (with_reducible first | exact HB.out | apply below_alloc | apply pw_below_drewN | apply below_drew1) | exact HB.out)⟩⟩
      · rw [if_neg c6] at H
        have c6b0 : decide (1000 < (a1.size : Int)) = false := decide_eq_false c6
        have c6b1 : decide (1000 < a1.size) = false := decide_eq_false (by omega)
        clear c6
        have H' := Aside0.mk H
        clear H
        go_wp2
        go_meet
        case rel => exact ⟨_, (decide ((a2.size : Int) > 1000)), (by first | rfl | (simp; done) | (simp [*]; done)), H', ⟨by first | omega | exact Nat.le_refl _⟩, ⟨by repeat (first | (with_reducible first | exact HB.out | apply below_alloc | apply pw_below_drewN | apply below_drew1) | exact HB.out)⟩⟩
  case rest =>
    clear HC4
    try clear p2
    try clear c3
    try clear c5
    try clear c5b0
    try clear c5b1
    try clear c6
    try clear c6b0
    try clear c6b1
    obtain ⟨kq, x24_3, rfl, HA, HJ3, HB⟩ := hcut
    cases kq with
    | zero => exact absurd HA.out (by simp [skirmishlaw20_OrdersRoundTrip.j0])
    | succ kj3 =>
      have H := HA.out
      clear HA
      simp only [skirmishlaw20_OrdersRoundTrip.j0] at H
      by_cases c7 : x24_3 = true
      · subst c7
        have H1 : ((skirmishlaw20_alive.f kj3).bind fun t245 => (some t245)) = some r := by rw [if_pos rfl] at H; exact H
        clear H
        have H := H1
        clear H1
        replace H := Option.bind_eq_some_iff.mp H
        obtain ⟨t245, A80, H⟩ := H
        replace H : (some t245) = some r := H
        have A8 := Aside0.mk A80
        clear A80
        obtain rfl := Option.some.inj H
        go_wp2_with (first | ((with_reducible refine gate_callee (f := 9) rfl ?_); refine goesL_ (some 25) rfl rfl Try.func9 (by kernel_rfl) rfl #[] rfl (by (try simp only [List.map_toArray, List.map_cons, List.map_nil]); first | done | rfl | (simp only [List.length_drop, List.length_take]; rfl)) ?_; (with_reducible refine (skirmishlaw20_alive.calls kj3 t245 Hr.out _ A8.out).mono ?_); rintro e w9 ⟨rfl, hb⟩; refine ⟨_, rfl, ?_⟩; have n0_ := Aside0.mk (below_step (by repeat (first | (with_reducible first | exact HB.out | apply below_alloc | apply pw_below_drewN | apply below_drew1) | exact HB.out)) hb); clear HB; have HB := n0_; clear n0_; (try clear hb); (try clear hb2); (try clear hk); (try clear hi)))
        go_ret
        exact ⟨by first | rfl | (simp [errW_none, errW_some] <;> rfl) | (simp [*, errW_none, errW_some] <;> rfl), by repeat (first | (with_reducible first | exact HB.out | apply below_alloc | apply pw_below_drewN | apply below_drew1) | exact HB.out)⟩
      · replace c7 := Bool.eq_false_iff.mpr c7
        subst c7
        have H1 : (skirmishlaw20_OrdersRoundTrip.l0 kj3 l0 a1 a2 (l0.length : Int) 0) = some r := by rw [if_neg (show ¬ (false = true) by decide)] at H; exact H
        clear H
        have H := H1
        clear H1
        have H' := Aside0.mk H
        clear H
        go_wp2
        go_loopg [28] kj3 (fun kq v28 w' => ∃ (x28_2 : Int), v28 = .int .i64 x28_2 ∧ Aside0 (skirmishlaw20_OrdersRoundTrip.l0 kq l0 a1 a2 (l0.length : Int) x28_2 = some r) ∧ Aside0 (kq ≤ kj3) ∧ Aside0 (Below w.heap.size w w'))
        case atStart => exact ⟨(0), (by first | rfl | (simp; done) | (simp [*]; done)), H', ⟨Nat.le_refl _⟩, ⟨by repeat (first | (with_reducible first | exact HB.out | apply below_alloc | apply pw_below_drewN | apply below_drew1) | exact HB.out)⟩⟩
        case round =>
          clear H'
          try clear p2
          try clear c3
          try clear c5
          try clear c5b0
          try clear c5b1
          try clear c6
          try clear c6b0
          try clear c6b1
          try clear c7
          try clear c9
          try clear p2
          obtain ⟨x28_2, rfl, HA, HK2, HB⟩ := hrel
          cases gk with
          | zero => exact absurd HA.out (by simp [skirmishlaw20_OrdersRoundTrip.l0])
          | succ k2 =>
            have H := HA.out
            clear HA
            simp only [skirmishlaw20_OrdersRoundTrip.l0] at H
            by_cases c10 : x28_2 < (l0.length : Int)
            · rw [if_pos c10] at H
              have c10b0 : decide (x28_2 < (l0.length : Int)) = true := decide_eq_true c10
              clear c10
              by_cases c11 : 0 ≤ x28_2
              · rw [if_pos c11] at H
                have c11b0 : decide (0 ≤ x28_2) = true := decide_eq_true c11
                clear c11
                by_cases c12 : x28_2 < (l0.length : Int)
                · rw [if_pos c12] at H
                  have c12b0 : decide (x28_2 < (l0.length : Int)) = true := decide_eq_true c12
                  clear c12
                  replace H := Option.bind_eq_some_iff.mp H
                  obtain ⟨t247, A130, H⟩ := H
                  replace H : (if t247 = true then (skirmishlaw20_OrdersRoundTrip.l0 k2 l0 a1 a2 (l0.length : Int) (wrap64 (x28_2 + 1))) else ((skirmishlaw20_alive.f k2).bind fun t248 => (some t248))) = some r := H
                  have A13 := Aside0.mk A130
                  clear A130
                  by_cases c14 : t247 = true
                  · subst c14
                    have H1 : (skirmishlaw20_OrdersRoundTrip.l0 k2 l0 a1 a2 (l0.length : Int) (wrap64 (x28_2 + 1))) = some r := by rw [if_pos rfl] at H; exact H
                    clear H
                    have H := H1
                    clear H1
                    have H' := Aside0.mk H
                    clear H
                    have p246 : 0 ≤ (x28_2 : Int) := of_decide_eq_true (by first | (with_reducible assumption) | assumption)
                    have q246 : x28_2 < (l0.length : Int) := of_decide_eq_true (by first | (with_reducible assumption) | assumption)
                    obtain ⟨ad246, e246, hx246_0, hx246_1, hx246_2, hx246_3, hx246_4⟩ := at_T28 HR0.out x28_2 p246 q246
                    cases e246
                    replace hx246_0 := (HB.out.cell (World.block_lt_of_cell? w _ hx246_0)).trans hx246_0
                    replace hx246_1 := (HB.out.cell (World.block_lt_of_cell? w _ hx246_1)).trans hx246_1
                    replace hx246_2 := (HB.out.cell (World.block_lt_of_cell? w _ hx246_2)).trans hx246_2
                    replace hx246_3 := (HB.out.cell (World.block_lt_of_cell? w _ hx246_3)).trans hx246_3
                    replace hx246_4 := (HB.out.cell (World.block_lt_of_cell? w _ hx246_4)).trans hx246_4
                    replace p246 := eq_true p246
                    replace q246 := eq_true q246
                    go_wp2_with (first | ((with_reducible refine gate_callee (f := 10) rfl ?_); refine goesL_ (some 35) rfl rfl Try.func10 (by kernel_rfl) rfl #[.agg #[.int .i64 ((rd_T28 l0 x28_2).f0), .int .i64 ((rd_T28 l0 x28_2).f1.f0), .int .i64 ((rd_T28 l0 x28_2).f1.f1), .int .i64 ((rd_T28 l0 x28_2).f2), .string ((rd_T28 l0 x28_2).f3)]] rfl (by (try simp only [List.map_toArray, List.map_cons, List.map_nil]); first | done | rfl | (simp only [List.length_drop, List.length_take]; rfl)) ?_; (with_reducible refine (skirmishref20_Valid.calls k2 ((rd_T28 l0 x28_2).f0) ((rd_T28 l0 x28_2).f1.f0) ((rd_T28 l0 x28_2).f1.f1) ((rd_T28 l0 x28_2).f2) ((rd_T28 l0 x28_2).f3) true _ A13.out).mono ?_); rintro e w15 ⟨rfl, hb⟩; refine ⟨_, rfl, ?_⟩; have n0_ := Aside0.mk (below_step (by repeat (first | (with_reducible first | exact HB.out | apply below_alloc | apply pw_below_drewN | apply below_drew1) | exact HB.out)) hb); clear HB; have HB := n0_; clear n0_; (try clear hb); (try clear hb2); (try clear hk); (try clear hi)))
                    go_roundg k2
                    case measure => have := HJ3.out; have := HK2.out; omega
                    case rel => exact ⟨(wrap64 (x28_2 + 1)), (by first | rfl | (simp; done) | (simp [*]; done)), H', ⟨by have := HJ3.out; have := HK2.out; omega⟩, ⟨by repeat (first | (with_reducible first | exact HB.out | apply below_alloc | apply pw_below_drewN | apply below_drew1) | exact HB.out)⟩⟩
                  · replace c14 := Bool.eq_false_iff.mpr c14
                    subst c14
                    have H1 : ((skirmishlaw20_alive.f k2).bind fun t248 => (some t248)) = some r := by rw [if_neg (show ¬ (false = true) by decide)] at H; exact H
                    clear H
                    have H := H1
                    clear H1
                    replace H := Option.bind_eq_some_iff.mp H
                    obtain ⟨t248, A160, H⟩ := H
                    replace H : (some t248) = some r := H
                    have A16 := Aside0.mk A160
                    clear A160
                    obtain rfl := Option.some.inj H
                    have p246 : 0 ≤ (x28_2 : Int) := of_decide_eq_true (by first | (with_reducible assumption) | assumption)
                    have q246 : x28_2 < (l0.length : Int) := of_decide_eq_true (by first | (with_reducible assumption) | assumption)
                    obtain ⟨ad246, e246, hx246_0, hx246_1, hx246_2, hx246_3, hx246_4⟩ := at_T28 HR0.out x28_2 p246 q246
                    cases e246
                    replace hx246_0 := (HB.out.cell (World.block_lt_of_cell? w _ hx246_0)).trans hx246_0
                    replace hx246_1 := (HB.out.cell (World.block_lt_of_cell? w _ hx246_1)).trans hx246_1
                    replace hx246_2 := (HB.out.cell (World.block_lt_of_cell? w _ hx246_2)).trans hx246_2
                    replace hx246_3 := (HB.out.cell (World.block_lt_of_cell? w _ hx246_3)).trans hx246_3
                    replace hx246_4 := (HB.out.cell (World.block_lt_of_cell? w _ hx246_4)).trans hx246_4
                    replace p246 := eq_true p246
                    replace q246 := eq_true q246
                    go_wp2_with (first | ((with_reducible refine gate_callee (f := 10) rfl ?_); refine goesL_ (some 35) rfl rfl Try.func10 (by kernel_rfl) rfl #[.agg #[.int .i64 ((rd_T28 l0 x28_2).f0), .int .i64 ((rd_T28 l0 x28_2).f1.f0), .int .i64 ((rd_T28 l0 x28_2).f1.f1), .int .i64 ((rd_T28 l0 x28_2).f2), .string ((rd_T28 l0 x28_2).f3)]] rfl (by (try simp only [List.map_toArray, List.map_cons, List.map_nil]); first | done | rfl | (simp only [List.length_drop, List.length_take]; rfl)) ?_; (with_reducible refine (skirmishref20_Valid.calls k2 ((rd_T28 l0 x28_2).f0) ((rd_T28 l0 x28_2).f1.f0) ((rd_T28 l0 x28_2).f1.f1) ((rd_T28 l0 x28_2).f2) ((rd_T28 l0 x28_2).f3) false _ A13.out).mono ?_); rintro e w17 ⟨rfl, hb⟩; refine ⟨_, rfl, ?_⟩; have n0_ := Aside0.mk (below_step (by repeat (first | (with_reducible first | exact HB.out | apply below_alloc | apply pw_below_drewN | apply below_drew1) | exact HB.out)) hb); clear HB; have HB := n0_; clear n0_; (try clear hb); (try clear hb2); (try clear hk); (try clear hi)) | ((with_reducible refine gate_callee (f := 9) rfl ?_); refine goesL_ (some 37) rfl rfl Try.func9 (by kernel_rfl) rfl #[] rfl (by (try simp only [List.map_toArray, List.map_cons, List.map_nil]); first | done | rfl | (simp only [List.length_drop, List.length_take]; rfl)) ?_; (with_reducible refine (skirmishlaw20_alive.calls k2 t248 Hr.out _ A16.out).mono ?_); rintro e w18 ⟨rfl, hb⟩; refine ⟨_, rfl, ?_⟩; have n0_ := Aside0.mk (below_step (by repeat (first | (with_reducible first | exact HB.out | apply below_alloc | apply pw_below_drewN | apply below_drew1) | exact HB.out)) hb); clear HB; have HB := n0_; clear n0_; (try clear hb); (try clear hb2); (try clear hk); (try clear hi)))
                    go_ret
                    exact ⟨by first | rfl | (simp [errW_none, errW_some] <;> rfl) | (simp [*, errW_none, errW_some] <;> rfl), by repeat (first | (with_reducible first | exact HB.out | apply below_alloc | apply pw_below_drewN | apply below_drew1) | exact HB.out)⟩
                · rw [if_neg c12] at H
                  exact absurd H (by simp)
              · rw [if_neg c11] at H
                exact absurd H (by simp)
            · rw [if_neg c10] at H
              have c10b0 : decide (x28_2 < (l0.length : Int)) = false := decide_eq_false c10
              clear c10
              replace H := Option.bind_eq_some_iff.mp H
              obtain ⟨t249, A190, H⟩ := H
              replace H : (if a1.size + t249.size ≤ 9223372036854775807 then (if (a1 ++ t249).size + a2.size ≤ 9223372036854775807 then ((orders_Decode.f k2 ((a1 ++ t249) ++ a2) (a1.size : Int)).bind fun bt250 => (if bt250.2.2 = 0 then (if bt250.2.1 = (wrap64 ((a1.size : Int) + (t249.size : Int))) then ((skirmishref20_Same.f k2 l0 bt250.1).bind fun t255 => (if t255 = true then ((skirmishlaw20_alive.f k2).bind fun t256 => (some t256)) else (some false))) else (some false)) else (some false))) else (none)) else (none)) = some r := H
              have A19 := Aside0.mk A190
              clear A190
              by_cases c20 : a1.size + t249.size ≤ 9223372036854775807
              · rw [if_pos c20] at H
                have c20b0 := eq_true c20
                have c20b1 : decide (a1.size + t249.size ≤ 9223372036854775807) = true := decide_eq_true c20
                try have c20b2 : (9223372036854775807 < a1.size + t249.size) = False := eq_false (Nat.not_lt.2 c20)
                by_cases c21 : (a1 ++ t249).size + a2.size ≤ 9223372036854775807
                · rw [if_pos c21] at H
                  have c21b0 := eq_true c21
                  have c21b1 : decide ((a1 ++ t249).size + a2.size ≤ 9223372036854775807) = true := decide_eq_true c21
                  try have c21b2 : (9223372036854775807 < (a1 ++ t249).size + a2.size) = False := eq_false (Nat.not_lt.2 c21)
                  replace H := Option.bind_eq_some_iff.mp H
                  obtain ⟨⟨t250, t251, t252⟩, A220, H⟩ := H
                  replace H : (if t252 = 0 then (if t251 = (wrap64 ((a1.size : Int) + (t249.size : Int))) then ((skirmishref20_Same.f k2 l0 t250).bind fun t255 => (if t255 = true then ((skirmishlaw20_alive.f k2).bind fun t256 => (some t256)) else (some false))) else (some false)) else (some false)) = some r := H
                  have A22 := Aside0.mk A220
                  clear A220
                  by_cases c23 : t252 = 0
                  · rw [if_pos c23] at H
                    have c23b0 : (t252 == 0) = true := beq_iff_eq.mpr c23
                    have c23b1 : (t252 != 0) = false := bne_eq_false_iff_eq.mpr c23
                    clear c23
                    by_cases c24 : t251 = (wrap64 ((a1.size : Int) + (t249.size : Int)))
                    · rw [if_pos c24] at H
                      have c24b0 : (t251 == (wrap64 ((a1.size : Int) + (t249.size : Int)))) = true := beq_iff_eq.mpr c24
                      have c24b1 : (t251 != (wrap64 ((a1.size : Int) + (t249.size : Int)))) = false := bne_eq_false_iff_eq.mpr c24
                      have c24e : (wrap64 ((a1.size : Int) + (t249.size : Int))) = ((a1.size : Int) + (t249.size : Int)) := by unfold wrap64; omega
                      rw [c24e] at c24b0 c24b1
                      clear c24e
                      clear c24
                      replace H := Option.bind_eq_some_iff.mp H
                      obtain ⟨t255, A250, H⟩ := H
                      replace H : (if t255 = true then ((skirmishlaw20_alive.f k2).bind fun t256 => (some t256)) else (some false)) = some r := H
                      have A25 := Aside0.mk A250
                      clear A250
                      by_cases c26 : t255 = true
                      · subst c26
                        have H1 : ((skirmishlaw20_alive.f k2).bind fun t256 => (some t256)) = some r := by rw [if_pos rfl] at H; exact H
                        clear H
                        have H := H1
                        clear H1
                        replace H := Option.bind_eq_some_iff.mp H
                        obtain ⟨t256, A270, H⟩ := H
                        replace H : (some t256) = some r := H
                        have A27 := Aside0.mk A270
                        clear A270
                        obtain rfl := Option.some.inj H
                        go_wp2_with (first | ((with_reducible refine gate_callee (f := 11) rfl ?_); refine goesL_ (some 40) rfl rfl Try.func11 (by kernel_rfl) rfl #[.slice A0 l0.length c0] rfl (by (try simp only [List.map_toArray, List.map_cons, List.map_nil]); first | done | rfl | (simp only [List.length_drop, List.length_take]; rfl)) ?_; (with_reducible refine (orders_Encode.calls k2 _ _ l0 t249 _ ?side1 ?side2 A19.out).mono ?_); (case side1 => repeat (first | exact (Kd.C_below HR0.out HB.out) | (with_reducible refine Kd.C_alloc ?_ _) | (with_reducible refine Kd.C_drewN ?_ _) | (with_reducible refine Kd.C_drew ?_))); (case side2 => exact HC0.out); rintro e w28 ⟨rfl, hb⟩; refine ⟨_, rfl, ?_⟩; have n0_ := Aside0.mk (below_step (by repeat (first | (with_reducible first | exact HB.out | apply below_alloc | apply pw_below_drewN | apply below_drew1) | exact HB.out)) hb); clear HB; have HB := n0_; clear n0_; (try clear hb); (try clear hb2); (try clear hk); (try clear hi)) | ((with_reducible refine gate_callee (f := 12) rfl ?_); refine goesL_ (some 49) rfl rfl Try.func12 (by kernel_rfl) rfl #[.string ((a1 ++ t249) ++ a2), .int .i64 (a1.size : Int)] rfl (by (try simp only [List.map_toArray, List.map_cons, List.map_nil]); first | done | rfl | (simp only [List.length_drop, List.length_take]; rfl)) ?_; (with_reducible refine (orders_Decode.calls k2 ((a1 ++ t249) ++ a2) (a1.size : Int) t250 t251 t252 _ A22.out).mono ?_); rintro e w29 ⟨v253, rfl, ho0, hb⟩; refine ⟨_, rfl, ?_⟩; have n0_ := Aside0.mk (Kd.R_lower ho0 (below_size (by repeat (first | (with_reducible first | exact HB.out | apply below_alloc | apply pw_below_drewN | apply below_drew1) | exact HB.out)))); have n1_ := Aside0.mk (below_step (by repeat (first | (with_reducible first | exact HB.out | apply below_alloc | apply pw_below_drewN | apply below_drew1) | exact HB.out)) hb); clear HB; have HO254 := n0_; have HB := n1_; clear n0_ n1_; (try clear hb); (try clear hb2); (try clear hk); (try clear hi); (try clear ho0); obtain ⟨Ao30, co30, eo30⟩ := Kd.R_slice HO254.out; subst eo30) | (go_at_call 13; (with_reducible refine (skirmishref20_Same.calls k2 _ _ l0 _ _ t250 true _ ?side1 ?side2 ?side3 ?side4 A25.out).mono ?_); (case side1 => repeat (first | exact (Kd.C_below HR0.out HB.out) | (with_reducible refine Kd.C_alloc ?_ _) | (with_reducible refine Kd.C_drewN ?_ _) | (with_reducible refine Kd.C_drew ?_))); (case side2 => exact HC0.out); (case side3 => repeat (first | exact (Kd.R_reads' HO254.out).2.2 | (with_reducible refine Kd.C_alloc ?_ _) | (with_reducible refine Kd.C_drewN ?_ _) | (with_reducible refine Kd.C_drew ?_))); (case side4 => exact (Kd.R_reads' HO254.out).2.1); rintro e w' ⟨rfl, ⟨nd, rfl⟩⟩) | (go_at_call 9; (with_reducible refine (skirmishlaw20_alive.calls k2 t256 Hr.out _ A27.out).mono ?_); rintro e w31 ⟨rfl, hb⟩; have n0_ := Aside0.mk (Kd.R_below (by (with_reducible repeat (first | apply Kd.R_alloc | apply Kd.R_drewN | apply Kd.R_drew)); exact HO254.out) hb); have n1_ := Aside0.mk (below_step (by repeat (first | (with_reducible first | exact HB.out | apply below_alloc | apply pw_below_drewN | apply below_drew1) | exact HB.out)) hb); clear HO254; clear HB; have HO254 := n0_; have HB := n1_; clear n0_ n1_; (try clear hb); (try clear hb2); (try clear hk); (try clear hi)))
                        go_ret
                        exact ⟨by first | rfl | (simp [errW_none, errW_some] <;> rfl) | (simp [*, errW_none, errW_some] <;> rfl), by repeat (first | (with_reducible first | exact HB.out | apply below_alloc | apply pw_below_drewN | apply below_drew1) | exact HB.out)⟩
                      · replace c26 := Bool.eq_false_iff.mpr c26
                        subst c26
                        have H1 : (some false) = some r := by rw [if_neg (show ¬ (false = true) by decide)] at H; exact H
                        exact absurd ((Option.some.inj H1).trans Hr.out) (by simp)
                    · rw [if_neg c24] at H
                      exact absurd ((Option.some.inj H).trans Hr.out) (by simp)
                  · rw [if_neg c23] at H
                    exact absurd ((Option.some.inj H).trans Hr.out) (by simp)
                · rw [if_neg c21] at H
                  exact absurd H (by simp)
              · rw [if_neg c20] at H
                exact absurd H (by simp)

end Go.Proofs.Ytbclljolofbfdaa.F
