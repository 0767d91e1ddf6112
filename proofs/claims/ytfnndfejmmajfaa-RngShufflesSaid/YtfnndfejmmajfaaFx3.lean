/- Functions that the laws of this seat reach: for each a plain function, and a proof that the Go code comes to its answers. Out of the kit's print program; mended by hand where it fell. -/
import Derived.Test.YtfnndfejmmajfaaFx0
import Derived.Test.YtfnndfejmmajfaaFx1
import Derived.Test.YtfnndfejmmajfaaFx2
namespace Go.Proofs.Ytfnndfejmmajfaa.F
open Go.RowKit Go.Proofs.YtfnndfejmmajfaaW.PrintWords Go.Proofs.YtfnndfejmmajfaaW.PrintLast Go.Proofs.YtfnndfejmmajfaaW.PrintMore
attribute [local go_sem] max2_int min2_int max_two min_two max_three min_three max_four min_four   -- for this text's walks alone
set_option linter.unusedVariables false
set_option linter.unusedSimpArgs false

/-! ### skirmishlaw03_RngBelowFair: function 5 -/
mutual
def skirmishlaw03_RngBelowFair.j0 : Nat → Int → Int → Int → Int → Option (Bool)
  | 0, _, _, _, _ => none
  | k + 1, x0, x1, x8, x9 => (rng_Below.f k x0 x1).bind fun bt152 => ((rng_Next.f x0).bind fun bt155 => (skirmishlaw03_RngBelowFair.l0 k x1 x8 x9 bt152.1 bt152.2.1 bt152.2.2 bt155.1 bt155.2 0))
def skirmishlaw03_RngBelowFair.l0 : Nat → Int → Int → Int → Int → Int → Int → Int → Int → Int → Option (Bool)
  | 0, _, _, _, _, _, _, _, _, _ => none
  | k + 1, x1, x8, x9, x10, x11, x12, x13, x14, x15 => if x15 < 200 then (if x13 > x9 then ((rng_Next.f x14).bind fun bt157 => (skirmishlaw03_RngBelowFair.l0 k x1 x8 x9 x10 x11 x12 bt157.1 bt157.2 (wrap64 (x15 + 1)))) else (if x12 = 0 then (if x10 ≥ 0 then (if x10 < x1 then (if x8 = 0 then (none) else (if (IntKind.u64.wrap (x10)) = (Int.tmod x13 x8) then (if x11 = x14 then ((skirmishlaw03_awake.f k).bind fun t159 => (some t159)) else (some false)) else (some false))) else (some false)) else (some false)) else (some false))) else (if x12 = 0 then (if x10 ≥ 0 then (if x10 < x1 then (if x13 > x9 then ((skirmishlaw03_awake.f k).bind fun t160 => (some t160)) else (if x8 = 0 then (none) else (if (IntKind.u64.wrap (x10)) = (Int.tmod x13 x8) then (if x11 = x14 then ((skirmishlaw03_awake.f k).bind fun t161 => (some t161)) else (some false)) else (some false)))) else (some false)) else (some false)) else (some false))
end
def skirmishlaw03_RngBelowFair.f (k : Nat) (a0 : Int) (a1 : Int) : Option (Bool) := if a1 < 1 then ((rng_Below.f k a0 a1).bind fun bt148 => (if bt148.2.2 = 1 then ((skirmishlaw03_awake.f k).bind fun t151 => (some t151)) else (some false))) else (if (IntKind.u64.wrap (a1)) = 0 then (none) else (if ((18446744073709551615 : Int) % (IntKind.u64.wrap (a1))) = (IntKind.u64.wrap ((IntKind.u64.wrap (a1)) - 1)) then (skirmishlaw03_RngBelowFair.j0 k a0 a1 (IntKind.u64.wrap (a1)) 18446744073709551615) else (skirmishlaw03_RngBelowFair.j0 k a0 a1 (IntKind.u64.wrap (a1)) (IntKind.u64.wrap ((IntKind.u64.wrap (18446744073709551615 - ((18446744073709551615 : Int) % (IntKind.u64.wrap (a1))))) - 1)))))
theorem skirmishlaw03_RngBelowFair.mono_l : ∀ k, (∀ y0 y1 y2 y3, LeO (skirmishlaw03_RngBelowFair.j0 k y0 y1 y2 y3) (skirmishlaw03_RngBelowFair.j0 (k + 1) y0 y1 y2 y3)) ∧ (∀ y0 y1 y2 y3 y4 y5 y6 y7 y8, LeO (skirmishlaw03_RngBelowFair.l0 k y0 y1 y2 y3 y4 y5 y6 y7 y8) (skirmishlaw03_RngBelowFair.l0 (k + 1) y0 y1 y2 y3 y4 y5 y6 y7 y8))
  | 0 => ⟨fun _ _ _ _ r h => by simp [skirmishlaw03_RngBelowFair.j0] at h, fun _ _ _ _ _ _ _ _ _ r h => by simp [skirmishlaw03_RngBelowFair.l0] at h⟩
  | k + 1 => by
    obtain ⟨ih0, ih1⟩ := skirmishlaw03_RngBelowFair.mono_l k
    refine ⟨?_, ?_⟩
    · intro y0 y1 y2 y3
      unfold skirmishlaw03_RngBelowFair.j0
      repeat' first
      | (with_reducible exact ih0 _ _ _ _)
      | (with_reducible exact ih1 _ _ _ _ _ _ _ _ _)
      | (with_reducible exact rng_Below.mono _ _ _)
      | (with_reducible exact skirmishlaw03_awake.mono _)
      | (with_reducible exact LeO.refl _)
      | (with_reducible exact LeO.none _)
      | (with_reducible refine LeO.ite ?_ ?_)
      | (with_reducible refine LeO.bind ?_ (fun _ => ?_))
      | exact ih0 _ _ _ _
      | exact ih1 _ _ _ _ _ _ _ _ _
      | exact rng_Below.mono _ _ _
      | exact skirmishlaw03_awake.mono _
      | exact LeO.none _
      | refine LeO.ite ?_ ?_
      | refine LeO.bind ?_ (fun _ => ?_)
    · intro y0 y1 y2 y3 y4 y5 y6 y7 y8
      unfold skirmishlaw03_RngBelowFair.l0
      repeat' first
      | (with_reducible exact ih0 _ _ _ _)
      | (with_reducible exact ih1 _ _ _ _ _ _ _ _ _)
      | (with_reducible exact rng_Below.mono _ _ _)
      | (with_reducible exact skirmishlaw03_awake.mono _)
      | (with_reducible exact LeO.refl _)
      | (with_reducible exact LeO.none _)
      | (with_reducible refine LeO.ite ?_ ?_)
      | (with_reducible refine LeO.bind ?_ (fun _ => ?_))
      | exact ih0 _ _ _ _
      | exact ih1 _ _ _ _ _ _ _ _ _
      | exact rng_Below.mono _ _ _
      | exact skirmishlaw03_awake.mono _
      | exact LeO.none _
      | refine LeO.ite ?_ ?_
      | refine LeO.bind ?_ (fun _ => ?_)
theorem skirmishlaw03_RngBelowFair.mono : ∀ a0 a1 k, LeO (skirmishlaw03_RngBelowFair.f k a0 a1) (skirmishlaw03_RngBelowFair.f (k + 1) a0 a1) := by
  intro a0 a1 k
  obtain ⟨ih0, ih1⟩ := skirmishlaw03_RngBelowFair.mono_l k
  unfold skirmishlaw03_RngBelowFair.f
  repeat' first
      | (with_reducible exact ih0 _ _ _ _)
      | (with_reducible exact ih1 _ _ _ _ _ _ _ _ _)
      | (with_reducible exact rng_Below.mono _ _ _)
      | (with_reducible exact skirmishlaw03_awake.mono _)
      | (with_reducible exact LeO.refl _)
      | (with_reducible exact LeO.none _)
      | (with_reducible refine LeO.ite ?_ ?_)
      | (with_reducible refine LeO.bind ?_ (fun _ => ?_))
      | exact ih0 _ _ _ _
      | exact ih1 _ _ _ _ _ _ _ _ _
      | exact rng_Below.mono _ _ _
      | exact skirmishlaw03_awake.mono _
      | exact LeO.none _
      | refine LeO.ite ?_ ?_
      | refine LeO.bind ?_ (fun _ => ?_)
set_option maxHeartbeats 8000000 in
set_option maxRecDepth 100000 in
theorem skirmishlaw03_RngBelowFair.calls (k : Nat) (a0 : Int) (a1 : Int) (r : Bool) (w : World) (h : skirmishlaw03_RngBelowFair.f k a0 a1 = some r) :
    Calls Try.prog 5 #[.int .u64 a0, .int .i64 a1] w fun e w' => e = .returned (.bool r) ∧ Below w.heap.size w w' := by
  have HB := Aside0.mk (Below.refl w.heap.size w)
  have H : (if a1 < 1 then ((rng_Below.f k a0 a1).bind fun bt148 => (if bt148.2.2 = 1 then ((skirmishlaw03_awake.f k).bind fun t151 => (some t151)) else (some false))) else (if (IntKind.u64.wrap (a1)) = 0 then (none) else (if ((18446744073709551615 : Int) % (IntKind.u64.wrap (a1))) = (IntKind.u64.wrap ((IntKind.u64.wrap (a1)) - 1)) then (skirmishlaw03_RngBelowFair.j0 k a0 a1 (IntKind.u64.wrap (a1)) 18446744073709551615) else (skirmishlaw03_RngBelowFair.j0 k a0 a1 (IntKind.u64.wrap (a1)) (IntKind.u64.wrap ((IntKind.u64.wrap (18446744073709551615 - ((18446744073709551615 : Int) % (IntKind.u64.wrap (a1))))) - 1)))))) = some r := h
  clear h
  by_cases c3 : a1 < 1
  · rw [if_pos c3] at H
    have c3b0 : decide (a1 < 1) = true := decide_eq_true c3
    clear c3
    replace H := Option.bind_eq_some_iff.mp H
    obtain ⟨⟨t148, t149, t150⟩, A40, H⟩ := H
    replace H : (if t150 = 1 then ((skirmishlaw03_awake.f k).bind fun t151 => (some t151)) else (some false)) = some r := H
    have A4 := Aside0.mk A40
    clear A40
    by_cases c5 : t150 = 1
    · rw [if_pos c5] at H
      have c5b0 : (t150 == 1) = true := beq_iff_eq.mpr c5
      have c5b1 : (t150 != 1) = false := bne_eq_false_iff_eq.mpr c5
      clear c5
      replace H := Option.bind_eq_some_iff.mp H
      obtain ⟨t151, A60, H⟩ := H
      replace H : (some t151) = some r := H
      have A6 := Aside0.mk A60
      clear A60
      obtain rfl := Option.some.inj H
      go_enter Try.func5, Try.ntmps5
      go_wp2_with (first | ((with_reducible refine gate_callee (f := 12) rfl ?_); refine goesL_ (some 21) rfl rfl Try.func12 (by kernel_rfl) rfl #[.int .u64 a0, .int .i64 a1] rfl (by (try simp only [List.map_toArray, List.map_cons, List.map_nil]); first | done | rfl | (simp only [List.length_drop, List.length_take]; rfl)) ?_; (with_reducible refine (rng_Below.calls k a0 a1 t148 t149 t150 _ A4.out).mono ?_); rintro e w' ⟨rfl, ⟨nd, rfl⟩⟩; refine ⟨_, rfl, ?_⟩) | (go_at_call 11; (with_reducible refine (skirmishlaw03_awake.calls k  t151 _ A6.out).mono ?_); rintro e w7 ⟨rfl, hb⟩; have n0_ := Aside0.mk (below_step (by repeat (first | (with_reducible first | exact HB.out | apply below_alloc | apply pw_below_drewN | apply below_drew1) | exact HB.out)) hb); clear HB; have HB := n0_; clear n0_; (try clear hb); (try clear hb2); (try clear hk); (try clear hi)))
      go_ret
      exact ⟨by first | rfl | (simp [errW_none, errW_some] <;> rfl) | (simp [*, errW_none, errW_some] <;> rfl), by repeat (first | (with_reducible first | exact HB.out | apply below_alloc | apply pw_below_drewN | apply below_drew1) | exact HB.out)⟩
    · rw [if_neg c5] at H
      have c5b0 : (t150 == 1) = false := beq_eq_false_iff_ne.mpr c5
      have c5b1 : (t150 != 1) = true := bne_iff_ne.mpr c5
      obtain rfl := Option.some.inj H
      go_enter Try.func5, Try.ntmps5
      go_wp2_with (first | ((with_reducible refine gate_callee (f := 12) rfl ?_); refine goesL_ (some 21) rfl rfl Try.func12 (by kernel_rfl) rfl #[.int .u64 a0, .int .i64 a1] rfl (by (try simp only [List.map_toArray, List.map_cons, List.map_nil]); first | done | rfl | (simp only [List.length_drop, List.length_take]; rfl)) ?_; (with_reducible refine (rng_Below.calls k a0 a1 t148 t149 t150 _ A4.out).mono ?_); rintro e w' ⟨rfl, ⟨nd, rfl⟩⟩; refine ⟨_, rfl, ?_⟩))
      go_ret
      exact ⟨by first | rfl | (simp [errW_none, errW_some] <;> rfl) | (simp [*, errW_none, errW_some] <;> rfl), by repeat (first | (with_reducible first | exact HB.out | apply below_alloc | apply pw_below_drewN | apply below_drew1) | exact HB.out)⟩
  · rw [if_neg c3] at H
    have c3b0 : decide (a1 < 1) = false := decide_eq_false c3
    clear c3
    by_cases c8 : (IntKind.u64.wrap (a1)) = 0
    · rw [if_pos c8] at H
      exact absurd H (by simp)
    · rw [if_neg c8] at H
      have c8b0 : ((IntKind.u64.wrap (a1)) == 0) = false := beq_eq_false_iff_ne.mpr c8
      have c8b1 : ((IntKind.u64.wrap (a1)) != 0) = true := bne_iff_ne.mpr c8
      have HC9 := Aside0.mk H
      clear H
      go_enter Try.func5, Try.ntmps5
      go_upto_if 40 with (fail)
      go_cut [9] (fun v9 wc => ∃ (kq : Nat) (x9_8 : Int), v9 = .int .u64 x9_8 ∧ Aside0 (skirmishlaw03_RngBelowFair.j0 kq a0 a1 (IntKind.u64.wrap (a1)) x9_8 = some r) ∧ Aside0 (kq ≤ k) ∧ Aside0 (Below w.heap.size w wc))
      case first =>
        have H := HC9.out
        clear HC9
        by_cases c10 : ((18446744073709551615 : Int) % (IntKind.u64.wrap (a1))) = (IntKind.u64.wrap ((IntKind.u64.wrap (a1)) - 1))
        · rw [if_pos c10] at H
          have c10b0 : (((18446744073709551615 : Int) % (IntKind.u64.wrap (a1))) == (IntKind.u64.wrap ((IntKind.u64.wrap (a1)) - 1))) = true := beq_iff_eq.mpr c10
          have c10b1 : (((18446744073709551615 : Int) % (IntKind.u64.wrap (a1))) != (IntKind.u64.wrap ((IntKind.u64.wrap (a1)) - 1))) = false := bne_eq_false_iff_eq.mpr c10
          clear c10
          (first | rw [c10b0] | (simp only [i64_w, i32_w]; rw [c10b0]) | skip)
          have H' := Aside0.mk H
          clear H
          go_wp2
          go_meet
          case rel => exact ⟨_, (18446744073709551615), (by first | rfl | (simp; done) | (simp [*]; done)), H', ⟨by first | omega | exact Nat.le_refl _⟩, ⟨by repeat (first | (with_reducible first | exact HB.out | apply below_alloc | apply pw_below_drewN | apply below_drew1) | exact HB.out)⟩⟩
        · rw [if_neg c10] at H
          have c10b0 : (((18446744073709551615 : Int) % (IntKind.u64.wrap (a1))) == (IntKind.u64.wrap ((IntKind.u64.wrap (a1)) - 1))) = false := beq_eq_false_iff_ne.mpr c10
          have c10b1 : (((18446744073709551615 : Int) % (IntKind.u64.wrap (a1))) != (IntKind.u64.wrap ((IntKind.u64.wrap (a1)) - 1))) = true := bne_iff_ne.mpr c10
          (first | rw [c10b0] | (simp only [i64_w, i32_w]; rw [c10b0]) | skip)
          have H' := Aside0.mk H
          clear H
          go_wp2
          go_meet
          case rel => exact ⟨_, (IntKind.u64.wrap ((IntKind.u64.wrap (18446744073709551615 - ((18446744073709551615 : Int) % (IntKind.u64.wrap (a1))))) - 1)), (by first | rfl | (simp; done) | (simp [*]; done)), H', ⟨by first | omega | exact Nat.le_refl _⟩, ⟨by repeat (first | (with_reducible first | exact HB.out | apply below_alloc | apply pw_below_drewN | apply below_drew1) | exact HB.out)⟩⟩
      case rest =>
        clear HC9
        try clear c1
        try clear p2
        try clear c3
        try clear c3b0
        try clear c5
        try clear c5b0
        try clear c5b1
        try clear c8
        try clear c8b0
        try clear c8b1
        try clear c10
        try clear c10b0
        try clear c10b1
        obtain ⟨kq, x9_8, rfl, HA, HJ8, HB⟩ := hcut
        cases kq with
        | zero => exact absurd HA.out (by simp [skirmishlaw03_RngBelowFair.j0])
        | succ kj8 =>
          have H := HA.out
          clear HA
          simp only [skirmishlaw03_RngBelowFair.j0] at H
          replace H := Option.bind_eq_some_iff.mp H
          obtain ⟨⟨t152, t153, t154⟩, A110, H⟩ := H
          replace H : ((rng_Next.f a0).bind fun bt155 => (skirmishlaw03_RngBelowFair.l0 kj8 a1 (IntKind.u64.wrap (a1)) x9_8 t152 t153 t154 bt155.1 bt155.2 0)) = some r := H
          have A11 := Aside0.mk A110
          clear A110
          replace H := Option.bind_eq_some_iff.mp H
          obtain ⟨⟨t155, t156⟩, A120, H⟩ := H
          replace H : (skirmishlaw03_RngBelowFair.l0 kj8 a1 (IntKind.u64.wrap (a1)) x9_8 t152 t153 t154 t155 t156 0) = some r := H
          have A12 := Aside0.mk A120
          clear A120
          have H' := Aside0.mk H
          clear H
          go_wp2_with (first | ((with_reducible refine gate_callee (f := 12) rfl ?_); refine goesL_ (some 44) rfl rfl Try.func12 (by kernel_rfl) rfl #[.int .u64 a0, .int .i64 a1] rfl (by (try simp only [List.map_toArray, List.map_cons, List.map_nil]); first | done | rfl | (simp only [List.length_drop, List.length_take]; rfl)) ?_; (with_reducible refine (rng_Below.calls kj8 a0 a1 t152 t153 t154 _ A11.out).mono ?_); rintro e w' ⟨rfl, ⟨nd, rfl⟩⟩; refine ⟨_, rfl, ?_⟩) | ((with_reducible refine gate_callee (f := 9) rfl ?_); refine goesL_ (some 50) rfl rfl Try.func9 (by kernel_rfl) rfl #[.int .u64 a0] rfl (by (try simp only [List.map_toArray, List.map_cons, List.map_nil]); first | done | rfl | (simp only [List.length_drop, List.length_take]; rfl)) ?_; (with_reducible refine (rng_Next.calls a0 t155 t156 _ A12.out).mono ?_); rintro e w' ⟨rfl, ⟨nd, rfl⟩⟩; refine ⟨_, rfl, ?_⟩))
          go_loopg [13, 14, 15] kj8 (fun kq v13 v14 v15 w' => ∃ (x13_2 : Int) (x14_2 : Int) (x15_2 : Int), v13 = .int .u64 x13_2 ∧ v14 = .int .u64 x14_2 ∧ v15 = .int .i64 x15_2 ∧ Aside0 (skirmishlaw03_RngBelowFair.l0 kq a1 (IntKind.u64.wrap (a1)) x9_8 t152 t153 t154 x13_2 x14_2 x15_2 = some r) ∧ Aside0 (kq ≤ kj8) ∧ Aside0 (Below w.heap.size w w'))
          case atStart => exact ⟨(t155), (t156), (0), (by first | rfl | (simp; done) | (simp [*]; done)), (by first | rfl | (simp; done) | (simp [*]; done)), (by first | rfl | (simp; done) | (simp [*]; done)), H', ⟨Nat.le_refl _⟩, ⟨by repeat (first | (with_reducible first | exact HB.out | apply below_alloc | apply pw_below_drewN | apply below_drew1) | exact HB.out)⟩⟩
          case round =>
            clear H'
            try clear c1
            try clear p2
            try clear c3
            try clear c3b0
            try clear c5
            try clear c5b0
            try clear c5b1
            try clear c8
            try clear c8b0
            try clear c8b1
            try clear c9
            try clear c10
            try clear c10b0
            try clear c10b1
            try clear c12
            try clear p2
            obtain ⟨x13_2, x14_2, x15_2, rfl, rfl, rfl, HA, HK2, HB⟩ := hrel
            cases gk with
            | zero => exact absurd HA.out (by simp [skirmishlaw03_RngBelowFair.l0])
            | succ k2 =>
              have H := HA.out
              clear HA
              simp only [skirmishlaw03_RngBelowFair.l0] at H
              by_cases c13 : x15_2 < 200
              · rw [if_pos c13] at H
                have c13b0 : decide (x15_2 < 200) = true := decide_eq_true c13
                clear c13
                by_cases c14 : x13_2 > x9_8
                · rw [if_pos c14] at H
                  have c14b0 : decide (x9_8 < x13_2) = true := decide_eq_true c14
                  clear c14
                  replace H := Option.bind_eq_some_iff.mp H
                  obtain ⟨⟨t157, t158⟩, A150, H⟩ := H
                  replace H : (skirmishlaw03_RngBelowFair.l0 k2 a1 (IntKind.u64.wrap (a1)) x9_8 t152 t153 t154 t157 t158 (wrap64 (x15_2 + 1))) = some r := H
                  have A15 := Aside0.mk A150
                  clear A150
                  have H' := Aside0.mk H
                  clear H
                  go_wp2_with (first | ((with_reducible refine gate_callee (f := 9) rfl ?_); refine goesL_ (some 64) rfl rfl Try.func9 (by kernel_rfl) rfl #[.int .u64 x14_2] rfl (by (try simp only [List.map_toArray, List.map_cons, List.map_nil]); first | done | rfl | (simp only [List.length_drop, List.length_take]; rfl)) ?_; (with_reducible refine (rng_Next.calls x14_2 t157 t158 _ A15.out).mono ?_); rintro e w' ⟨rfl, ⟨nd, rfl⟩⟩; refine ⟨_, rfl, ?_⟩))
                  go_roundg k2
                  case measure => have := HJ8.out; have := HK2.out; omega
                  case rel => exact ⟨(t157), (t158), (wrap64 (x15_2 + 1)), (by first | rfl | (simp; done) | (simp [*]; done)), (by first | rfl | (simp; done) | (simp [*]; done)), (by first | rfl | (simp; done) | (simp [*]; done)), H', ⟨by have := HJ8.out; have := HK2.out; omega⟩, ⟨by repeat (first | (with_reducible first | exact HB.out | apply below_alloc | apply pw_below_drewN | apply below_drew1) | exact HB.out)⟩⟩
                · rw [if_neg c14] at H
                  have c14b0 : decide (x9_8 < x13_2) = false := decide_eq_false c14
                  clear c14
                  by_cases c16 : t154 = 0
                  · rw [if_pos c16] at H
                    have c16b0 : (t154 == 0) = true := beq_iff_eq.mpr c16
                    have c16b1 : (t154 != 0) = false := bne_eq_false_iff_eq.mpr c16
                    clear c16
                    by_cases c17 : t152 ≥ 0
                    · rw [if_pos c17] at H
                      have c17b0 : decide (0 ≤ t152) = true := decide_eq_true c17
                      clear c17
                      by_cases c18 : t152 < a1
                      · rw [if_pos c18] at H
                        have c18b0 : decide (t152 < a1) = true := decide_eq_true c18
                        clear c18
                        by_cases c19 : (IntKind.u64.wrap (a1)) = 0
                        · rw [if_pos c19] at H
                          exact absurd H (by simp)
                        · rw [if_neg c19] at H
                          have c19b0 : ((IntKind.u64.wrap (a1)) == 0) = false := beq_eq_false_iff_ne.mpr c19
                          have c19b1 : ((IntKind.u64.wrap (a1)) != 0) = true := bne_iff_ne.mpr c19
                          by_cases c20 : (IntKind.u64.wrap (t152)) = (Int.tmod x13_2 (IntKind.u64.wrap (a1)))
                          · rw [if_pos c20] at H
                            have c20b0 : ((IntKind.u64.wrap (t152)) == (Int.tmod x13_2 (IntKind.u64.wrap (a1)))) = true := beq_iff_eq.mpr c20
                            have c20b1 : ((IntKind.u64.wrap (t152)) != (Int.tmod x13_2 (IntKind.u64.wrap (a1)))) = false := bne_eq_false_iff_eq.mpr c20
                            clear c20
                            by_cases c21 : t153 = x14_2
                            · rw [if_pos c21] at H
                              have c21b0 : (t153 == x14_2) = true := beq_iff_eq.mpr c21
                              have c21b1 : (t153 != x14_2) = false := bne_eq_false_iff_eq.mpr c21
                              clear c21
                              replace H := Option.bind_eq_some_iff.mp H
                              obtain ⟨t159, A220, H⟩ := H
                              replace H : (some t159) = some r := H
                              have A22 := Aside0.mk A220
                              clear A220
                              obtain rfl := Option.some.inj H
                              go_wp2_with (first | (go_at_call 11; (with_reducible refine (skirmishlaw03_awake.calls k2  t159 _ A22.out).mono ?_); rintro e w23 ⟨rfl, hb⟩; have n0_ := Aside0.mk (below_step (by repeat (first | (with_reducible first | exact HB.out | apply below_alloc | apply pw_below_drewN | apply below_drew1) | exact HB.out)) hb); clear HB; have HB := n0_; clear n0_; (try clear hb); (try clear hb2); (try clear hk); (try clear hi)))
                              go_ret
                              exact ⟨by first | rfl | (simp [errW_none, errW_some] <;> rfl) | (simp [*, errW_none, errW_some] <;> rfl), by repeat (first | (with_reducible first | exact HB.out | apply below_alloc | apply pw_below_drewN | apply below_drew1) | exact HB.out)⟩
                            · rw [if_neg c21] at H
                              have c21b0 : (t153 == x14_2) = false := beq_eq_false_iff_ne.mpr c21
                              have c21b1 : (t153 != x14_2) = true := bne_iff_ne.mpr c21
                              obtain rfl := Option.some.inj H
                              go_wp2
                              go_ret
                              exact ⟨by first | rfl | (simp [errW_none, errW_some] <;> rfl) | (simp [*, errW_none, errW_some] <;> rfl), by repeat (first | (with_reducible first | exact HB.out | apply below_alloc | apply pw_below_drewN | apply below_drew1) | exact HB.out)⟩
                          · rw [if_neg c20] at H
                            have c20b0 : ((IntKind.u64.wrap (t152)) == (Int.tmod x13_2 (IntKind.u64.wrap (a1)))) = false := beq_eq_false_iff_ne.mpr c20
                            have c20b1 : ((IntKind.u64.wrap (t152)) != (Int.tmod x13_2 (IntKind.u64.wrap (a1)))) = true := bne_iff_ne.mpr c20
                            obtain rfl := Option.some.inj H
                            go_wp2
                            go_ret
                            exact ⟨by first | rfl | (simp [errW_none, errW_some] <;> rfl) | (simp [*, errW_none, errW_some] <;> rfl), by repeat (first | (with_reducible first | exact HB.out | apply below_alloc | apply pw_below_drewN | apply below_drew1) | exact HB.out)⟩
                      · rw [if_neg c18] at H
                        have c18b0 : decide (t152 < a1) = false := decide_eq_false c18
                        clear c18
                        obtain rfl := Option.some.inj H
                        go_wp2
                        go_ret
                        exact ⟨by first | rfl | (simp [errW_none, errW_some] <;> rfl) | (simp [*, errW_none, errW_some] <;> rfl), by repeat (first | (with_reducible first | exact HB.out | apply below_alloc | apply pw_below_drewN | apply below_drew1) | exact HB.out)⟩
                    · rw [if_neg c17] at H
                      have c17b0 : decide (0 ≤ t152) = false := decide_eq_false c17
                      clear c17
                      obtain rfl := Option.some.inj H
                      go_wp2
                      go_ret
                      exact ⟨by first | rfl | (simp [errW_none, errW_some] <;> rfl) | (simp [*, errW_none, errW_some] <;> rfl), by repeat (first | (with_reducible first | exact HB.out | apply below_alloc | apply pw_below_drewN | apply below_drew1) | exact HB.out)⟩
                  · rw [if_neg c16] at H
                    have c16b0 : (t154 == 0) = false := beq_eq_false_iff_ne.mpr c16
                    have c16b1 : (t154 != 0) = true := bne_iff_ne.mpr c16
                    obtain rfl := Option.some.inj H
                    go_wp2
                    go_ret
                    exact ⟨by first | rfl | (simp [errW_none, errW_some] <;> rfl) | (simp [*, errW_none, errW_some] <;> rfl), by repeat (first | (with_reducible first | exact HB.out | apply below_alloc | apply pw_below_drewN | apply below_drew1) | exact HB.out)⟩
              · rw [if_neg c13] at H
                have c13b0 : decide (x15_2 < 200) = false := decide_eq_false c13
                clear c13
                by_cases c24 : t154 = 0
                · rw [if_pos c24] at H
                  have c24b0 : (t154 == 0) = true := beq_iff_eq.mpr c24
                  have c24b1 : (t154 != 0) = false := bne_eq_false_iff_eq.mpr c24
                  clear c24
                  by_cases c25 : t152 ≥ 0
                  · rw [if_pos c25] at H
                    have c25b0 : decide (0 ≤ t152) = true := decide_eq_true c25
                    clear c25
                    by_cases c26 : t152 < a1
                    · rw [if_pos c26] at H
                      have c26b0 : decide (t152 < a1) = true := decide_eq_true c26
                      clear c26
                      by_cases c27 : x13_2 > x9_8
                      · rw [if_pos c27] at H
                        have c27b0 : decide (x9_8 < x13_2) = true := decide_eq_true c27
                        clear c27
                        replace H := Option.bind_eq_some_iff.mp H
                        obtain ⟨t160, A280, H⟩ := H
                        replace H : (some t160) = some r := H
                        have A28 := Aside0.mk A280
                        clear A280
                        obtain rfl := Option.some.inj H
                        go_wp2_with (first | (go_at_call 11; (with_reducible refine (skirmishlaw03_awake.calls k2  t160 _ A28.out).mono ?_); rintro e w29 ⟨rfl, hb⟩; have n0_ := Aside0.mk (below_step (by repeat (first | (with_reducible first | exact HB.out | apply below_alloc | apply pw_below_drewN | apply below_drew1) | exact HB.out)) hb); clear HB; have HB := n0_; clear n0_; (try clear hb); (try clear hb2); (try clear hk); (try clear hi)))
                        go_ret
                        exact ⟨by first | rfl | (simp [errW_none, errW_some] <;> rfl) | (simp [*, errW_none, errW_some] <;> rfl), by repeat (first | (with_reducible first | exact HB.out | apply below_alloc | apply pw_below_drewN | apply below_drew1) | exact HB.out)⟩
                      · rw [if_neg c27] at H
                        have c27b0 : decide (x9_8 < x13_2) = false := decide_eq_false c27
                        clear c27
                        by_cases c30 : (IntKind.u64.wrap (a1)) = 0
                        · rw [if_pos c30] at H
                          exact absurd H (by simp)
                        · rw [if_neg c30] at H
                          have c30b0 : ((IntKind.u64.wrap (a1)) == 0) = false := beq_eq_false_iff_ne.mpr c30
                          have c30b1 : ((IntKind.u64.wrap (a1)) != 0) = true := bne_iff_ne.mpr c30
                          by_cases c31 : (IntKind.u64.wrap (t152)) = (Int.tmod x13_2 (IntKind.u64.wrap (a1)))
                          · rw [if_pos c31] at H
                            have c31b0 : ((IntKind.u64.wrap (t152)) == (Int.tmod x13_2 (IntKind.u64.wrap (a1)))) = true := beq_iff_eq.mpr c31
                            have c31b1 : ((IntKind.u64.wrap (t152)) != (Int.tmod x13_2 (IntKind.u64.wrap (a1)))) = false := bne_eq_false_iff_eq.mpr c31
                            clear c31
                            by_cases c32 : t153 = x14_2
                            · rw [if_pos c32] at H
                              have c32b0 : (t153 == x14_2) = true := beq_iff_eq.mpr c32
                              have c32b1 : (t153 != x14_2) = false := bne_eq_false_iff_eq.mpr c32
                              clear c32
                              replace H := Option.bind_eq_some_iff.mp H
                              obtain ⟨t161, A330, H⟩ := H
                              replace H : (some t161) = some r := H
                              have A33 := Aside0.mk A330
                              clear A330
                              obtain rfl := Option.some.inj H
                              go_wp2_with (first | (go_at_call 11; (with_reducible refine (skirmishlaw03_awake.calls k2  t161 _ A33.out).mono ?_); rintro e w34 ⟨rfl, hb⟩; have n0_ := Aside0.mk (below_step (by repeat (first | (with_reducible first | exact HB.out | apply below_alloc | apply pw_below_drewN | apply below_drew1) | exact HB.out)) hb); clear HB; have HB := n0_; clear n0_; (try clear hb); (try clear hb2); (try clear hk); (try clear hi)))
                              go_ret
                              exact ⟨by first | rfl | (simp [errW_none, errW_some] <;> rfl) | (simp [*, errW_none, errW_some] <;> rfl), by repeat (first | (with_reducible first | exact HB.out | apply below_alloc | apply pw_below_drewN | apply below_drew1) | exact HB.out)⟩
                            · rw [if_neg c32] at H
                              have c32b0 : (t153 == x14_2) = false := beq_eq_false_iff_ne.mpr c32
                              have c32b1 : (t153 != x14_2) = true := bne_iff_ne.mpr c32
                              obtain rfl := Option.some.inj H
                              go_wp2
                              go_ret
                              exact ⟨by first | rfl | (simp [errW_none, errW_some] <;> rfl) | (simp [*, errW_none, errW_some] <;> rfl), by repeat (first | (with_reducible first | exact HB.out | apply below_alloc | apply pw_below_drewN | apply below_drew1) | exact HB.out)⟩
                          · rw [if_neg c31] at H
                            have c31b0 : ((IntKind.u64.wrap (t152)) == (Int.tmod x13_2 (IntKind.u64.wrap (a1)))) = false := beq_eq_false_iff_ne.mpr c31
                            have c31b1 : ((IntKind.u64.wrap (t152)) != (Int.tmod x13_2 (IntKind.u64.wrap (a1)))) = true := bne_iff_ne.mpr c31
                            obtain rfl := Option.some.inj H
                            go_wp2
                            go_ret
                            exact ⟨by first | rfl | (simp [errW_none, errW_some] <;> rfl) | (simp [*, errW_none, errW_some] <;> rfl), by repeat (first | (with_reducible first | exact HB.out | apply below_alloc | apply pw_below_drewN | apply below_drew1) | exact HB.out)⟩
                    · rw [if_neg c26] at H
                      have c26b0 : decide (t152 < a1) = false := decide_eq_false c26
                      clear c26
                      obtain rfl := Option.some.inj H
                      go_wp2
                      go_ret
                      exact ⟨by first | rfl | (simp [errW_none, errW_some] <;> rfl) | (simp [*, errW_none, errW_some] <;> rfl), by repeat (first | (with_reducible first | exact HB.out | apply below_alloc | apply pw_below_drewN | apply below_drew1) | exact HB.out)⟩
                  · rw [if_neg c25] at H
                    have c25b0 : decide (0 ≤ t152) = false := decide_eq_false c25
                    clear c25
                    obtain rfl := Option.some.inj H
                    go_wp2
                    go_ret
                    exact ⟨by first | rfl | (simp [errW_none, errW_some] <;> rfl) | (simp [*, errW_none, errW_some] <;> rfl), by repeat (first | (with_reducible first | exact HB.out | apply below_alloc | apply pw_below_drewN | apply below_drew1) | exact HB.out)⟩
                · rw [if_neg c24] at H
                  have c24b0 : (t154 == 0) = false := beq_eq_false_iff_ne.mpr c24
                  have c24b1 : (t154 != 0) = true := bne_iff_ne.mpr c24
                  obtain rfl := Option.some.inj H
                  go_wp2
                  go_ret
                  exact ⟨by first | rfl | (simp [errW_none, errW_some] <;> rfl) | (simp [*, errW_none, errW_some] <;> rfl), by repeat (first | (with_reducible first | exact HB.out | apply below_alloc | apply pw_below_drewN | apply below_drew1) | exact HB.out)⟩

/-- THE ONE PURE STATEMENT of skirmishlaw03_RngBelowFair: yours. -/
def skirmishlaw03_RngBelowFair.Pure : Prop := ∀ (a0 : Int) (a1 : Int), (Lit.int .u64 a0).wf = true → (Lit.int .i64 a1).wf = true → ∃ k, skirmishlaw03_RngBelowFair.f k a0 a1 = some true
theorem skirmishlaw03_RngBelowFair.walk (P : skirmishlaw03_RngBelowFair.Pure) (a0 : Int) (a1 : Int) (w : World) (w0 : (Lit.int .u64 a0).wf = true) (w1 : (Lit.int .i64 a1).wf = true) :
    Calls Try.prog 5 #[.int .u64 a0, .int .i64 a1] w fun e w' => e = .returned (.bool true) ∧ Below w.heap.size w w' := by
  obtain ⟨k, h⟩ := P a0 a1 w0 w1
  refine (skirmishlaw03_RngBelowFair.calls k a0 a1 true w h).mono ?_
  rintro e w' ⟨rfl, hd⟩
  exact ⟨rfl, hd⟩

/-! ### skirmishref03_Shuffle: function 15 -/
mutual
def skirmishref03_Shuffle.l0 : Nat → Int → Int → List Int → Int → Option (List Int × Int × Int)
  | 0, _, _, _, _ => none
  | k + 1, x0, x1, x7, x8 => if x8 < x1 then (if x7.length < 17592186044416 then (skirmishref03_Shuffle.l0 k x0 x1 (x7 ++ [x8]) (wrap64 (x8 + 1))) else (none)) else (skirmishref03_Shuffle.l1 k x7 x0 (wrap64 (x1 - 1)))
def skirmishref03_Shuffle.l1 : Nat → List Int → Int → Int → Option (List Int × Int × Int)
  | 0, _, _, _ => none
  | k + 1, x7, x9, x10 => if x10 ≥ 1 then ((skirmishref03_Below.f k x9 (wrap64 (x10 + 1))).bind fun bt165 => (if 0 ≤ x10 then (if x10 < (x7.length : Int) then (if 0 ≤ bt165.1 then (if bt165.1 < (x7.length : Int) then (skirmishref03_Shuffle.l1 k ((x7.set (x10 : Int).toNat (rd x7 bt165.1)).set (bt165.1 : Int).toNat (rd x7 x10)) bt165.2.1 (wrap64 (x10 - 1))) else (none)) else (none)) else (none)) else (none))) else (some (x7, x9, 0))
end
def skirmishref03_Shuffle.f (k : Nat) (a0 : Int) (a1 : Int) : Option (List Int × Int × Int) := if a1 < 0 then (some (([] : List Int), 0, 1)) else (if a1 > 1000 then (some (([] : List Int), 0, 2)) else (skirmishref03_Shuffle.l0 k a0 a1 ([] : List Int) 0))
theorem skirmishref03_Shuffle.mono_l : ∀ k, (∀ y0 y1 y2 y3, LeO (skirmishref03_Shuffle.l0 k y0 y1 y2 y3) (skirmishref03_Shuffle.l0 (k + 1) y0 y1 y2 y3)) ∧ (∀ y0 y1 y2, LeO (skirmishref03_Shuffle.l1 k y0 y1 y2) (skirmishref03_Shuffle.l1 (k + 1) y0 y1 y2))
  | 0 => ⟨fun _ _ _ _ r h => by simp [skirmishref03_Shuffle.l0] at h, fun _ _ _ r h => by simp [skirmishref03_Shuffle.l1] at h⟩
  | k + 1 => by
    obtain ⟨ih0, ih1⟩ := skirmishref03_Shuffle.mono_l k
    refine ⟨?_, ?_⟩
    · intro y0 y1 y2 y3
      unfold skirmishref03_Shuffle.l0
      repeat' first
      | (with_reducible exact ih0 _ _ _ _)
      | (with_reducible exact ih1 _ _ _)
      | (with_reducible exact skirmishref03_Below.mono _ _ _)
      | (with_reducible exact LeO.refl _)
      | (with_reducible exact LeO.none _)
      | (with_reducible refine LeO.ite ?_ ?_)
      | (with_reducible refine LeO.bind ?_ (fun _ => ?_))
      | exact ih0 _ _ _ _
      | exact ih1 _ _ _
      | exact skirmishref03_Below.mono _ _ _
      | exact LeO.none _
      | refine LeO.ite ?_ ?_
      | refine LeO.bind ?_ (fun _ => ?_)
    · intro y0 y1 y2
      unfold skirmishref03_Shuffle.l1
      repeat' first
      | (with_reducible exact ih0 _ _ _ _)
      | (with_reducible exact ih1 _ _ _)
      | (with_reducible exact skirmishref03_Below.mono _ _ _)
      | (with_reducible exact LeO.refl _)
      | (with_reducible exact LeO.none _)
      | (with_reducible refine LeO.ite ?_ ?_)
      | (with_reducible refine LeO.bind ?_ (fun _ => ?_))
      | exact ih0 _ _ _ _
      | exact ih1 _ _ _
      | exact skirmishref03_Below.mono _ _ _
      | exact LeO.none _
      | refine LeO.ite ?_ ?_
      | refine LeO.bind ?_ (fun _ => ?_)
theorem skirmishref03_Shuffle.mono : ∀ a0 a1 k, LeO (skirmishref03_Shuffle.f k a0 a1) (skirmishref03_Shuffle.f (k + 1) a0 a1) := by
  intro a0 a1 k
  obtain ⟨ih0, ih1⟩ := skirmishref03_Shuffle.mono_l k
  unfold skirmishref03_Shuffle.f
  repeat' first
      | (with_reducible exact ih0 _ _ _ _)
      | (with_reducible exact ih1 _ _ _)
      | (with_reducible exact skirmishref03_Below.mono _ _ _)
      | (with_reducible exact LeO.refl _)
      | (with_reducible exact LeO.none _)
      | (with_reducible refine LeO.ite ?_ ?_)
      | (with_reducible refine LeO.bind ?_ (fun _ => ?_))
      | exact ih0 _ _ _ _
      | exact ih1 _ _ _
      | exact skirmishref03_Below.mono _ _ _
      | exact LeO.none _
      | refine LeO.ite ?_ ?_
      | refine LeO.bind ?_ (fun _ => ?_)
set_option maxHeartbeats 8000000 in
set_option maxRecDepth 100000 in
theorem skirmishref03_Shuffle.calls (k : Nat) (a0 : Int) (a1 : Int) (r1 : List Int) (r2 : Int) (r3 : Int) (w : World) (h : skirmishref03_Shuffle.f k a0 a1 = some (r1, r2, r3)) :
    Calls Try.prog 15 #[.int .u64 a0, .int .i64 a1] w fun e w' => ∃ v0_ : Value, e = .returned (.tuple #[v0_, .int .u64 r2, .int .i64 r3]) ∧ Kd.R (Kd.int .i64) 3 w' w.heap.size (fun _ => True) v0_ r1 ∧ Below w.heap.size w w' := by
  have HB := Aside0.mk (Below.refl w.heap.size w)
  have H : (if a1 < 0 then (some (([] : List Int), 0, 1)) else (if a1 > 1000 then (some (([] : List Int), 0, 2)) else (skirmishref03_Shuffle.l0 k a0 a1 ([] : List Int) 0))) = some (r1, r2, r3) := h
  clear h
  by_cases c3 : a1 < 0
  · rw [if_pos c3] at H
    have c3b0 : decide (a1 < 0) = true := decide_eq_true c3
    clear c3
    simp only [Option.some.injEq, Prod.mk.injEq] at H
    obtain ⟨rfl, rfl, rfl⟩ := H
    go_enter Try.func15, Try.ntmps15
    go_wp2
    go_ret3
    exact ⟨_, by first | rfl | (simp [errW_none, errW_some] <;> rfl) | (simp [*, errW_none, errW_some] <;> rfl), by first | exact Kd.R_nil _ _ _ _ _ | exact Kd.N_nil _ _ _ _ _ | exact Kd.V_nil _ _ _ _ _ | exact Kd.Q_nil _ _ _ _ _ | exact Kd.S_nil _ _ _ _ _, by repeat (first | (with_reducible first | exact HB.out | apply below_alloc | apply pw_below_drewN | apply below_drew1) | exact HB.out)⟩
  · rw [if_neg c3] at H
    have c3b0 : decide (a1 < 0) = false := decide_eq_false c3
    clear c3
    by_cases c4 : a1 > 1000
    · rw [if_pos c4] at H
      have c4b0 : decide (1000 < a1) = true := decide_eq_true c4
      clear c4
      simp only [Option.some.injEq, Prod.mk.injEq] at H
      obtain ⟨rfl, rfl, rfl⟩ := H
      go_enter Try.func15, Try.ntmps15
      go_wp2
      go_ret3
      exact ⟨_, by first | rfl | (simp [errW_none, errW_some] <;> rfl) | (simp [*, errW_none, errW_some] <;> rfl), by first | exact Kd.R_nil _ _ _ _ _ | exact Kd.N_nil _ _ _ _ _ | exact Kd.V_nil _ _ _ _ _ | exact Kd.Q_nil _ _ _ _ _ | exact Kd.S_nil _ _ _ _ _, by repeat (first | (with_reducible first | exact HB.out | apply below_alloc | apply pw_below_drewN | apply below_drew1) | exact HB.out)⟩
    · rw [if_neg c4] at H
      have c4b0 : decide (1000 < a1) = false := decide_eq_false c4
      clear c4
      have H' := Aside0.mk H
      clear H
      go_enter Try.func15, Try.ntmps15
      go_wp2
      go_loopg [7, 8] k (fun kq v7 v8 w' => ∃ (x7_1 : List Int) (x8_1 : Int), v8 = .int .i64 x8_1 ∧ Aside0 (skirmishref03_Shuffle.l0 kq a0 a1 x7_1 x8_1 = some (r1, r2, r3)) ∧ Aside0 (kq ≤ k) ∧ Aside0 (Kd.R (Kd.int .i64) 3 w' w.heap.size (fun _ => True) v7 x7_1) ∧ Aside0 (Below w.heap.size w w'))
      case atStart => exact ⟨(([] : List Int)), (0), (by first | rfl | (simp; done) | (simp [*]; done)), H', ⟨Nat.le_refl _⟩, ⟨by first | exact Kd.R_nil _ _ _ _ _ | exact Kd.N_nil _ _ _ _ _ | exact Kd.V_nil _ _ _ _ _ | exact Kd.Q_nil _ _ _ _ _ | exact Kd.S_nil _ _ _ _ _⟩, ⟨by repeat (first | (with_reducible first | exact HB.out | apply below_alloc | apply pw_below_drewN | apply below_drew1) | exact HB.out)⟩⟩
      case round =>
        clear H'
        try clear c1
        try clear p2
        try clear c3
        try clear c3b0
        try clear c4
        try clear c4b0
        obtain ⟨x7_1, x8_1, rfl, HA, HK1, HO_7, HB⟩ := hrel
        cases gk with
        | zero => exact absurd HA.out (by simp [skirmishref03_Shuffle.l0])
        | succ k1 =>
          have H := HA.out
          clear HA
          simp only [skirmishref03_Shuffle.l0] at H
          by_cases c5 : x8_1 < a1
          · rw [if_pos c5] at H
            have c5b0 : decide (x8_1 < a1) = true := decide_eq_true c5
            clear c5
            by_cases c6 : x7_1.length < 17592186044416
            · rw [if_pos c6] at H
              have LMc6 := Aside0.mk c6
              clear c6
              obtain ⟨y162, hy162⟩ : ∃ y_ : List Int, y_ = (x7_1 ++ [x8_1]) := ⟨_, rfl⟩
              replace H : (skirmishref03_Shuffle.l0 k1 a0 a1 y162 (wrap64 (x8_1 + 1))) = some (r1, r2, r3) := by first | (rw [hy162]; with_reducible exact H) | (have H2_ := (Option.bind_some _ _).symm.trans H; rw [hy162]; with_reducible exact H2_) | (have H2_ := (Option.bind_some _ _).symm.trans H; with_reducible exact H2_) | with_reducible exact H | (rw [hy162]; exact H) | exact H
              have Ny162 := Aside0.mk hy162
              clear hy162
              have H' := Aside0.mk H
              clear H
              go_wp2_with (first | ((with_reducible refine gate_builtin (b := .append) (xs := #[.tmp 24, .tmp 26]) rfl ?_); at_builtin; refine Kd.R_append (Kd.int .i64) (w0 := w) w.heap.size rfl (.tmp 24) (.tmp 26) 31 3 (.int .i64 0) 8 rfl Try.underlying31 info3 rfl (by decide) (by omega) u7 x7_1 x8_1 [.int .i64 x8_1] (fun _ => True) (fun _ => False) rfl rfl ?aP (fun _ hk => hk.elim) ?aF ?aO ?aB ?aS ?aL ?_; (case aP => exact rfl); (case aB => exact (by repeat (first | (with_reducible first | exact HB.out | apply below_alloc | apply pw_below_drewN | apply below_drew1) | exact HB.out))); (case aF => exact (fun _ _ => trivial)); (case aO => exact (by (with_reducible repeat (first | apply Kd.R_alloc | apply Kd.R_drewN | apply Kd.R_drew)); exact HO_7.out)); (case aS => exact (below_size (by repeat (first | (with_reducible first | exact HB.out | apply below_alloc | apply pw_below_drewN | apply below_drew1) | exact HB.out)))); (case aL => have := LMc6.out; omega); intro v163 w7 ho hb hg hat; rw [← Ny162.out] at ho; have n0_ := Aside0.mk (hb); have n1_ := Aside0.mk (ho); clear HB; clear HO_7; have HB := n0_; have HO164 := n1_; clear n0_ n1_; clear ho hb hg hat))
              go_roundg k1
              case measure => have := HK1.out; omega
              case rel => exact ⟨(y162), (wrap64 (x8_1 + 1)), (by first | rfl | (simp; done) | (simp [*]; done)), H', ⟨by have := HK1.out; omega⟩, ⟨by (with_reducible repeat (first | apply Kd.R_alloc | apply Kd.R_drewN | apply Kd.R_drew)); exact HO164.out⟩, ⟨by repeat (first | (with_reducible first | exact HB.out | apply below_alloc | apply pw_below_drewN | apply below_drew1) | exact HB.out)⟩⟩
            · rw [if_neg c6] at H
              exact absurd H (by simp)
          · rw [if_neg c5] at H
            have c5b0 : decide (x8_1 < a1) = false := decide_eq_false c5
            clear c5
            have H' := Aside0.mk H
            clear H
            go_wp2
            go_loopg [9, 10] k1 (fun kq v9 v10 w' => ∃ (x7_2 : List Int) (x9_2 : Int) (x10_2 : Int), v9 = .int .u64 x9_2 ∧ v10 = .int .i64 x10_2 ∧ Aside0 (skirmishref03_Shuffle.l1 kq x7_2 x9_2 x10_2 = some (r1, r2, r3)) ∧ Aside0 (kq ≤ k1) ∧ Aside0 (Kd.R (Kd.int .i64) 3 w' w.heap.size (fun _ => True) u7 x7_2) ∧ Aside0 (Below w.heap.size w w'))
            case atStart => exact ⟨(x7_1), (a0), (wrap64 (a1 - 1)), (by first | rfl | (simp; done) | (simp [*]; done)), (by first | rfl | (simp; done) | (simp [*]; done)), H', ⟨Nat.le_refl _⟩, ⟨by (with_reducible repeat (first | apply Kd.R_alloc | apply Kd.R_drewN | apply Kd.R_drew)); exact HO_7.out⟩, ⟨by repeat (first | (with_reducible first | exact HB.out | apply below_alloc | apply pw_below_drewN | apply below_drew1) | exact HB.out)⟩⟩
            case round =>
              clear H'
              try clear c1
              try clear p2
              try clear c3
              try clear c3b0
              try clear c4
              try clear c4b0
              try clear c5
              try clear c5b0
              try clear c6
              try clear p6
              try clear p2
              obtain ⟨x7_2, x9_2, x10_2, rfl, rfl, HA, HK2, HO_7, HB⟩ := hrel
              cases gk with
              | zero => exact absurd HA.out (by simp [skirmishref03_Shuffle.l1])
              | succ k2 =>
                have H := HA.out
                clear HA
                simp only [skirmishref03_Shuffle.l1] at H
                by_cases c8 : x10_2 ≥ 1
                · rw [if_pos c8] at H
                  have c8b0 : decide (1 ≤ x10_2) = true := decide_eq_true c8
                  clear c8
                  replace H := Option.bind_eq_some_iff.mp H
                  obtain ⟨⟨t165, t166, t167⟩, A90, H⟩ := H
                  replace H : (if 0 ≤ x10_2 then (if x10_2 < (x7_2.length : Int) then (if 0 ≤ t165 then (if t165 < (x7_2.length : Int) then (skirmishref03_Shuffle.l1 k2 ((x7_2.set (x10_2 : Int).toNat (rd x7_2 t165)).set (t165 : Int).toNat (rd x7_2 x10_2)) t166 (wrap64 (x10_2 - 1))) else (none)) else (none)) else (none)) else (none)) = some (r1, r2, r3) := H
                  have A9 := Aside0.mk A90
                  clear A90
                  by_cases c10 : 0 ≤ x10_2
                  · rw [if_pos c10] at H
                    have c10b0 : decide (0 ≤ x10_2) = true := decide_eq_true c10
                    clear c10
                    by_cases c11 : x10_2 < (x7_2.length : Int)
                    · rw [if_pos c11] at H
                      have c11b0 : decide (x10_2 < (x7_2.length : Int)) = true := decide_eq_true c11
                      clear c11
                      by_cases c12 : 0 ≤ t165
                      · rw [if_pos c12] at H
                        have c12b0 : decide (0 ≤ t165) = true := decide_eq_true c12
                        clear c12
                        by_cases c13 : t165 < (x7_2.length : Int)
                        · rw [if_pos c13] at H
                          have c13b0 : decide (t165 < (x7_2.length : Int)) = true := decide_eq_true c13
                          clear c13
                          obtain ⟨y170, hy170⟩ : ∃ y_ : List Int, y_ = (x7_2.set (x10_2 : Int).toNat (rd x7_2 t165)) := ⟨_, rfl⟩
                          replace H : (skirmishref03_Shuffle.l1 k2 (y170.set (t165 : Int).toNat (rd x7_2 x10_2)) t166 (wrap64 (x10_2 - 1))) = some (r1, r2, r3) := by first | (rw [hy170]; with_reducible exact H) | (have H2_ := (Option.bind_some _ _).symm.trans H; rw [hy170]; with_reducible exact H2_) | (have H2_ := (Option.bind_some _ _).symm.trans H; with_reducible exact H2_) | with_reducible exact H | (rw [hy170]; exact H) | exact H
                          have Ny170 := Aside0.mk hy170
                          clear hy170
                          obtain ⟨y171, hy171⟩ : ∃ y_ : List Int, y_ = (y170.set (t165 : Int).toNat (rd x7_2 x10_2)) := ⟨_, rfl⟩
                          replace H : (skirmishref03_Shuffle.l1 k2 y171 t166 (wrap64 (x10_2 - 1))) = some (r1, r2, r3) := by first | (rw [hy171]; with_reducible exact H) | (have H2_ := (Option.bind_some _ _).symm.trans H; rw [hy171]; with_reducible exact H2_) | (have H2_ := (Option.bind_some _ _).symm.trans H; with_reducible exact H2_) | with_reducible exact H | (rw [hy171]; exact H) | exact H
                          have Ny171 := Aside0.mk hy171
                          clear hy171
                          have H' := Aside0.mk H
                          clear H
                          go_wp2_with (first | ((with_reducible refine gate_callee (f := 13) rfl ?_); refine goesL_ (some 39) rfl rfl Try.func13 (by kernel_rfl) rfl #[.int .u64 x9_2, .int .i64 (wrap64 (x10_2 + 1))] rfl (by (try simp only [List.map_toArray, List.map_cons, List.map_nil]); first | done | rfl | (simp only [List.length_drop, List.length_take]; rfl)) ?_; (with_reducible refine (skirmishref03_Below.calls k2 x9_2 (wrap64 (x10_2 + 1)) t165 t166 t167 _ A9.out).mono ?_); rintro e w' ⟨rfl, ⟨nd, rfl⟩⟩; refine ⟨_, rfl, ?_⟩; (try (rw [drewN_self wr]; generalize hq_ : World.drewN wr _ = wr; have n0_ : Aside0 (Kd.R (Kd.int .i64) 3 wr w.heap.size (fun _ => True) u7 x7_2) := ⟨by rw [← hq_]; exact (by (with_reducible repeat (first | apply Kd.R_alloc | apply Kd.R_drewN | apply Kd.R_drew)); exact HO_7.out)⟩; have n1_ : Aside0 (Below w.heap.size w wr) := ⟨by rw [← hq_]; exact (by repeat (first | (with_reducible first | exact HB.out | apply below_alloc | apply pw_below_drewN | apply below_drew1) | exact HB.out))⟩; clear HO_7 HB hq_; have HO_7 := n0_; have HB := n1_; clear n0_ n1_)); obtain ⟨Ao16, co16, eo16⟩ := Kd.R_slice HO_7.out; subst eo16; have p168 : 0 ≤ (x10_2 : Int) := of_decide_eq_true (by first | (with_reducible assumption) | assumption); have q168 : x10_2 < (x7_2.length : Int) := of_decide_eq_true (by first | (with_reducible assumption) | assumption); obtain ⟨ad168, e168, hx168_0⟩ := Kd.at_int (Kd.R_reads' HO_7.out).2.2 x10_2 p168 q168; cases e168; replace p168 := eq_true p168; replace q168 := eq_true q168; have p169 : 0 ≤ (t165 : Int) := of_decide_eq_true (by first | (with_reducible assumption) | assumption); have q169 : t165 < (x7_2.length : Int) := of_decide_eq_true (by first | (with_reducible assumption) | assumption); obtain ⟨ad169, e169, hx169_0⟩ := Kd.at_int (Kd.R_reads' HO_7.out).2.2 t165 p169 q169; obtain rfl : ad168 = ad169 := (by injection e169); replace p169 := eq_true p169; replace q169 := eq_true q169; have p14 : 0 ≤ (x10_2 : Int) := of_decide_eq_true (by first | (with_reducible assumption) | assumption); have q14 : (x10_2 : Int) < ((x7_2.length : Int) : Int) := of_decide_eq_true (by first | (with_reducible assumption) | assumption); obtain ⟨go14, co14, eo14, gb14, gl14, cl14, HG14⟩ := Kd.R_form HO_7.out (by omega); (first | cases eo14 | (injection eo14 with ea_ en_ ec_; (first | subst ea_ | (injection ea_ with ea_; subst ea_)); subst ec_; clear en_)); have GB14 := Aside0.mk gb14; have GG14 := Aside0.mk HG14; clear gb14 gl14 HG14; (first | simp only [add_plain] at hx168_0 | skip); (first | simp only [add_plain] at hx169_0 | skip); obtain ⟨hx14_0, hf14_0⟩ := Kd.R_celln 0 HO_7.out (x10_2 : Int) p14 q14; replace p14 := eq_true p14; replace q14 := eq_true q14; obtain ⟨hy17_, hz17_⟩ := Kd.R_celln 0 HO_7.out (x10_2 : Int) (of_decide_eq_true (by first | (with_reducible assumption) | assumption)) (of_decide_eq_true (by first | (with_reducible assumption) | assumption)); have HP17 := Kd.R_putg HO_7.out (x10_2 : Int) (rd x7_2 t165)) | ((with_reducible refine gate_store (t := 3) (p := 54) rfl ?_); refine store_event (t := 3) (p := 54) (v := ?vo_w18) (w1 := (wr.setCell ⟨go14, (x10_2 : Int).toNat, none⟩ (.int .i64 (rd x7_2 t165)))) ?hg ?ho ?hn ?hr ?_; (case ho => rfl); (case hg => rfl); (case hn => rfl); (case hr => first | (go_simp; done) | (go_simp; rfl)); intro w18 hw; have hg : wr.grownBy w18 (some go14) := (by rw [hw]; exact HP17.2); have hp_ : Kd.R (Kd.int .i64) 3 w18 w.heap.size (fun _ => True) (.slice (some ⟨go14, 0, none⟩) x7_2.length co16) y170 := (by rw [hw, Ny170.out]; exact HP17.1); clear HP17; have n0_ := Aside0.mk (hp_); have n1_ := Aside0.mk ((by rw [hw]; exact below_set (HB.out) GB14.out : Below w.heap.size w w18)); clear HO_7; clear HB; have HO_7 := n0_; have HB := n1_; clear n0_ n1_; clear hg hw hp_; have p15 : 0 ≤ (t165 : Int) := of_decide_eq_true (by first | (with_reducible assumption) | assumption); have q15 : (t165 : Int) < ((x7_2.length : Int) : Int) := of_decide_eq_true (by first | (with_reducible assumption) | assumption); obtain ⟨hx15_0, hf15_0⟩ := Kd.R_celln 0 HO_7.out (t165 : Int) p15 q15; replace p15 := eq_true p15; replace q15 := eq_true q15; obtain ⟨hy19_, hz19_⟩ := Kd.R_celln 0 HO_7.out (t165 : Int) (of_decide_eq_true (by first | (with_reducible assumption) | assumption)) (of_decide_eq_true (by first | (with_reducible assumption) | assumption)); have HP19 := Kd.R_putg HO_7.out (t165 : Int) (rd x7_2 x10_2)) | ((with_reducible refine gate_store (t := 3) (p := 58) rfl ?_); refine store_event (t := 3) (p := 58) (v := ?vo_w20) (w1 := (w18.setCell ⟨go14, (t165 : Int).toNat, none⟩ (.int .i64 (rd x7_2 x10_2)))) ?hg ?ho ?hn ?hr ?_; (case ho => rfl); (case hg => rfl); (case hn => rfl); (case hr => first | (go_simp; done) | (go_simp; rfl)); intro w20 hw; have hg : w18.grownBy w20 (some go14) := (by rw [hw]; exact HP19.2); have hp_ : Kd.R (Kd.int .i64) 3 w20 w.heap.size (fun _ => True) (.slice (some ⟨go14, 0, none⟩) x7_2.length co16) y171 := (by rw [hw, Ny171.out]; exact HP19.1); clear HP19; have n0_ := Aside0.mk (hp_); have n1_ := Aside0.mk ((by rw [hw]; exact below_set (HB.out) GB14.out : Below w.heap.size w w20)); clear HO_7; clear HB; have HO_7 := n0_; have HB := n1_; clear n0_ n1_; clear hg hw hp_))
                          go_roundg k2
                          case measure => have := HK1.out; have := HK2.out; omega
                          case rel => exact ⟨(y171), (t166), (wrap64 (x10_2 - 1)), (by first | rfl | (simp; done) | (simp [*]; done)), (by first | rfl | (simp; done) | (simp [*]; done)), H', ⟨by have := HK1.out; have := HK2.out; omega⟩, ⟨by (with_reducible repeat (first | apply Kd.R_alloc | apply Kd.R_drewN | apply Kd.R_drew)); exact HO_7.out⟩, ⟨by repeat (first | (with_reducible first | exact HB.out | apply below_alloc | apply pw_below_drewN | apply below_drew1) | exact HB.out)⟩⟩
                        · rw [if_neg c13] at H
                          exact absurd H (by simp)
                      · rw [if_neg c12] at H
                        exact absurd H (by simp)
                    · rw [if_neg c11] at H
                      exact absurd H (by simp)
                  · rw [if_neg c10] at H
                    exact absurd H (by simp)
                · rw [if_neg c8] at H
                  have c8b0 : decide (1 ≤ x10_2) = false := decide_eq_false c8
                  clear c8
                  simp only [Option.some.injEq, Prod.mk.injEq] at H
                  obtain ⟨rfl, rfl, rfl⟩ := H
                  go_wp2
                  go_ret3
                  exact ⟨_, by first | rfl | (simp [errW_none, errW_some] <;> rfl) | (simp [*, errW_none, errW_some] <;> rfl), by (with_reducible repeat (first | apply Kd.R_alloc | apply Kd.R_drewN | apply Kd.R_drew)); exact HO_7.out, by repeat (first | (with_reducible first | exact HB.out | apply below_alloc | apply pw_below_drewN | apply below_drew1) | exact HB.out)⟩

end Go.Proofs.Ytfnndfejmmajfaa.F
