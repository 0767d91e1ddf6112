/- Functions that the laws of this seat reach: for each a plain function, and a proof that the Go code comes to its answers. Out of the kit's print program; mended by hand where it fell. -/
import Derived.Test.YtdjndjgafdfkaaaFx0
namespace Go.Proofs.Ytdjndjgafdfkaaa.F
open Go.RowKit Go.Proofs.YtdjndjgafdfkaaaW.PrintWords Go.Proofs.YtdjndjgafdfkaaaW.PrintLast Go.Proofs.YtdjndjgafdfkaaaW.PrintMore
attribute [local go_sem] max2_int min2_int max_two min_two max_three min_three max_four min_four   -- for this text's walks alone
set_option linter.unusedVariables false
set_option linter.unusedSimpArgs false

/-! ### wire_TakeUint: function 10 -/
mutual
def wire_TakeUint.j0 : Nat → ByteArray → Int → Bool → Option (Int × Int × Int)
  | 0, _, _, _ => none
  | k + 1, x0, x1, x17 => if x17 = true then (some (0, 0, 1)) else (wire_TakeUint.l0 k x0 x1 0 0)
def wire_TakeUint.l0 : Nat → ByteArray → Int → Int → Int → Option (Int × Int × Int)
  | 0, _, _, _, _ => none
  | k + 1, x0, x1, x7, x18 => if x18 < 10 then (if (wrap64 (x1 + x18)) ≥ (x0.size : Int) then (some (0, 0, 4)) else (if 0 ≤ (wrap64 (x1 + x18)) then (if (wrap64 (x1 + x18)) < (x0.size : Int) then (if x18 = 9 then (wire_TakeUint.j2 k x0 x1 x7 x18 (bt x0 (wrap64 (x1 + x18))) x18 (decide ((bt x0 (wrap64 (x1 + x18))) > 1))) else (wire_TakeUint.j2 k x0 x1 x7 x18 (bt x0 (wrap64 (x1 + x18))) x18 false)) else (none)) else (none))) else (some (0, 0, 5))
def wire_TakeUint.j2 : Nat → ByteArray → Int → Int → Int → Int → Int → Bool → Option (Int × Int × Int)
  | 0, _, _, _, _, _, _, _ => none
  | k + 1, x0, x1, x7, x8, x9, x18, x37 => if x37 = true then (some (0, 0, 5)) else (if 0 ≤ (wrap64 (7 * x8)) then (if x9 < 128 then (if x9 = 0 then (if x8 > 0 then (some (0, 0, 5)) else (some (Go.bits .or .u64 x7 (shl .u64 (IntKind.u64.wrap (Int.tmod x9 128)) (wrap64 (7 * x8))), wrap64 ((wrap64 (x1 + x8)) + 1), 0))) else (some (Go.bits .or .u64 x7 (shl .u64 (IntKind.u64.wrap (Int.tmod x9 128)) (wrap64 (7 * x8))), wrap64 ((wrap64 (x1 + x8)) + 1), 0))) else (wire_TakeUint.l0 k x0 x1 (Go.bits .or .u64 x7 (shl .u64 (IntKind.u64.wrap (Int.tmod x9 128)) (wrap64 (7 * x8)))) (wrap64 (x18 + 1)))) else (none))
end
def wire_TakeUint.f (k : Nat) (a0 : ByteArray) (a1 : Int) : Option (Int × Int × Int) := if a1 < 0 then (wire_TakeUint.j0 k a0 a1 true) else (wire_TakeUint.j0 k a0 a1 (decide (a1 > (a0.size : Int))))
theorem wire_TakeUint.mono_l : ∀ k, (∀ y0 y1 y2, LeO (wire_TakeUint.j0 k y0 y1 y2) (wire_TakeUint.j0 (k + 1) y0 y1 y2)) ∧ (∀ y0 y1 y2 y3, LeO (wire_TakeUint.l0 k y0 y1 y2 y3) (wire_TakeUint.l0 (k + 1) y0 y1 y2 y3)) ∧ (∀ y0 y1 y2 y3 y4 y5 y6, LeO (wire_TakeUint.j2 k y0 y1 y2 y3 y4 y5 y6) (wire_TakeUint.j2 (k + 1) y0 y1 y2 y3 y4 y5 y6))
  | 0 => ⟨fun _ _ _ r h => by simp [wire_TakeUint.j0] at h, fun _ _ _ _ r h => by simp [wire_TakeUint.l0] at h, fun _ _ _ _ _ _ _ r h => by simp [wire_TakeUint.j2] at h⟩
  | k + 1 => by
    obtain ⟨ih0, ih1, ih2⟩ := wire_TakeUint.mono_l k
    refine ⟨?_, ?_, ?_⟩
    · intro y0 y1 y2
      unfold wire_TakeUint.j0
      repeat' first
      | (with_reducible exact ih0 _ _ _)
      | (with_reducible exact ih1 _ _ _ _)
      | (with_reducible exact ih2 _ _ _ _ _ _ _)
      | (with_reducible exact LeO.refl _)
      | (with_reducible exact LeO.none _)
      | (with_reducible refine LeO.ite ?_ ?_)
      | (with_reducible refine LeO.bind ?_ (fun _ => ?_))
      | exact ih0 _ _ _
      | exact ih1 _ _ _ _
      | exact ih2 _ _ _ _ _ _ _
      | exact LeO.none _
      | refine LeO.ite ?_ ?_
      | refine LeO.bind ?_ (fun _ => ?_)
    · intro y0 y1 y2 y3
      unfold wire_TakeUint.l0
      repeat' first
      | (with_reducible exact ih0 _ _ _)
      | (with_reducible exact ih1 _ _ _ _)
      | (with_reducible exact ih2 _ _ _ _ _ _ _)
      | (with_reducible exact LeO.refl _)
      | (with_reducible exact LeO.none _)
      | (with_reducible refine LeO.ite ?_ ?_)
      | (with_reducible refine LeO.bind ?_ (fun _ => ?_))
      | exact ih0 _ _ _
      | exact ih1 _ _ _ _
      | exact ih2 _ _ _ _ _ _ _
      | exact LeO.none _
      | refine LeO.ite ?_ ?_
      | refine LeO.bind ?_ (fun _ => ?_)
    · intro y0 y1 y2 y3 y4 y5 y6
      unfold wire_TakeUint.j2
      repeat' first
      | (with_reducible exact ih0 _ _ _)
      | (with_reducible exact ih1 _ _ _ _)
      | (with_reducible exact ih2 _ _ _ _ _ _ _)
      | (with_reducible exact LeO.refl _)
      | (with_reducible exact LeO.none _)
      | (with_reducible refine LeO.ite ?_ ?_)
      | (with_reducible refine LeO.bind ?_ (fun _ => ?_))
      | exact ih0 _ _ _
      | exact ih1 _ _ _ _
      | exact ih2 _ _ _ _ _ _ _
      | exact LeO.none _
      | refine LeO.ite ?_ ?_
      | refine LeO.bind ?_ (fun _ => ?_)
theorem wire_TakeUint.mono : ∀ a0 a1 k, LeO (wire_TakeUint.f k a0 a1) (wire_TakeUint.f (k + 1) a0 a1) := by
  intro a0 a1 k
  obtain ⟨ih0, ih1, ih2⟩ := wire_TakeUint.mono_l k
  unfold wire_TakeUint.f
  repeat' first
      | (with_reducible exact ih0 _ _ _)
      | (with_reducible exact ih1 _ _ _ _)
      | (with_reducible exact ih2 _ _ _ _ _ _ _)
      | (with_reducible exact LeO.refl _)
      | (with_reducible exact LeO.none _)
      | (with_reducible refine LeO.ite ?_ ?_)
      | (with_reducible refine LeO.bind ?_ (fun _ => ?_))
      | exact ih0 _ _ _
      | exact ih1 _ _ _ _
      | exact ih2 _ _ _ _ _ _ _
      | exact LeO.none _
      | refine LeO.ite ?_ ?_
      | refine LeO.bind ?_ (fun _ => ?_)
set_option maxHeartbeats 8000000 in
set_option maxRecDepth 100000 in
theorem wire_TakeUint.calls (k : Nat) (a0 : ByteArray) (a1 : Int) (r1 : Int) (r2 : Int) (r3 : Int) (w : World) (h : wire_TakeUint.f k a0 a1 = some (r1, r2, r3)) :
    Calls Try.prog 10 #[.string a0, .int .i64 a1] w fun e w' => e = .returned (.tuple #[.int .u64 r1, .int .i64 r2, .int .i64 r3]) ∧ Drawn0 w w' := by
  have H : (if a1 < 0 then (wire_TakeUint.j0 k a0 a1 true) else (wire_TakeUint.j0 k a0 a1 (decide (a1 > (a0.size : Int))))) = some (r1, r2, r3) := h
  clear h
  have HC3 := Aside0.mk H
  clear H
  go_enter Try.func10, Try.ntmps10
  go_upto_region 1 with (fail)
  go_cut [17] (fun v17 wc => ∃ (kq : Nat) (x17_2 : Bool), v17 = .bool x17_2 ∧ Aside0 (wire_TakeUint.j0 kq a0 a1 x17_2 = some (r1, r2, r3)) ∧ Aside0 (kq ≤ k) ∧ Drawn0 w wc)
  case first =>
    have H := HC3.out
    clear HC3
    by_cases c4 : a1 < 0
    · rw [if_pos c4] at H
      have c4b0 : decide (a1 < 0) = true := decide_eq_true c4
      clear c4
      (first | rw [c4b0] | (simp only [i64_w, i32_w]; rw [c4b0]) | skip)
      have H' := Aside0.mk H
      clear H
      go_wp2
      go_meet
      case rel => exact ⟨_, (true), (by first | rfl | (simp; done) | (simp [*]; done)), H', ⟨by first | omega | exact Nat.le_refl _⟩, by repeat (first | exact Drawn0.refl _ | apply Drawn0.step)⟩
    · rw [if_neg c4] at H
      have c4b0 : decide (a1 < 0) = false := decide_eq_false c4
      clear c4
      (first | rw [c4b0] | (simp only [i64_w, i32_w]; rw [c4b0]) | skip)
      have H' := Aside0.mk H
      clear H
      go_wp2
      go_meet
      case rel => exact ⟨_, (decide (a1 > (a0.size : Int))), (by first | rfl | (simp; done) | (simp [*]; done)), H', ⟨by first | omega | exact Nat.le_refl _⟩, by repeat (first | exact Drawn0.refl _ | apply Drawn0.step)⟩
  case rest =>
    clear HC3
    try clear c1
    try clear p2
    try clear c4
    try clear c4b0
    obtain ⟨kq, x17_2, rfl, HA, HJ2, ⟨mc2, rfl⟩⟩ := hcut
    cases kq with
    | zero => exact absurd HA.out (by simp [wire_TakeUint.j0])
    | succ kj2 =>
      have H := HA.out
      clear HA
      simp only [wire_TakeUint.j0] at H
      by_cases c5 : x17_2 = true
      · subst c5
        have H1 : (some (0, 0, 1)) = some (r1, r2, r3) := by rw [if_pos rfl] at H; exact H
        clear H
        have H := H1
        clear H1
        simp only [Option.some.injEq, Prod.mk.injEq] at H
        obtain ⟨rfl, rfl, rfl⟩ := H
        go_wp2
        go_ret3
        exact ⟨by first | rfl | (simp; done) | (simp [*]; done), by repeat (first | exact Drawn0.refl _ | apply Drawn0.step)⟩
      · replace c5 := Bool.eq_false_iff.mpr c5
        subst c5
        have H1 : (wire_TakeUint.l0 kj2 a0 a1 0 0) = some (r1, r2, r3) := by rw [if_neg (show ¬ (false = true) by decide)] at H; exact H
        clear H
        have H := H1
        clear H1
        have H' := Aside0.mk H
        clear H
        go_wp2
        go_loopg [7, 18] kj2 (fun kq v7 v18 w' => ∃ (x7_2 : Int) (x18_2 : Int), v7 = .int .u64 x7_2 ∧ v18 = .int .i64 x18_2 ∧ Aside0 (wire_TakeUint.l0 kq a0 a1 x7_2 x18_2 = some (r1, r2, r3)) ∧ Aside0 (kq ≤ kj2) ∧ Drawn0 w w')
        case atStart => exact ⟨(0), (0), (by first | rfl | (simp; done) | (simp [*]; done)), (by first | rfl | (simp; done) | (simp [*]; done)), H', ⟨Nat.le_refl _⟩, by repeat (first | exact Drawn0.refl _ | apply Drawn0.step)⟩
        case round =>
          clear H'
          try clear c1
          try clear c2
          try clear p2
          try clear c4
          try clear c4b0
          try clear c5
          try clear p2
          obtain ⟨x7_2, x18_2, rfl, rfl, HA, HK2, ⟨m2, rfl⟩⟩ := hrel
          cases gk with
          | zero => exact absurd HA.out (by simp [wire_TakeUint.l0])
          | succ k2 =>
            have H := HA.out
            clear HA
            simp only [wire_TakeUint.l0] at H
            by_cases c6 : x18_2 < 10
            · rw [if_pos c6] at H
              have c6b0 : decide (x18_2 < 10) = true := decide_eq_true c6
              clear c6
              by_cases c7 : (wrap64 (a1 + x18_2)) ≥ (a0.size : Int)
              · rw [if_pos c7] at H
                have c7b0 : decide ((a0.size : Int) ≤ (wrap64 (a1 + x18_2))) = true := decide_eq_true c7
                clear c7
                simp only [Option.some.injEq, Prod.mk.injEq] at H
                obtain ⟨rfl, rfl, rfl⟩ := H
                go_wp2
                go_ret3
                exact ⟨by first | rfl | (simp; done) | (simp [*]; done), by repeat (first | exact Drawn0.refl _ | apply Drawn0.step)⟩
              · rw [if_neg c7] at H
                have c7b0 : decide ((a0.size : Int) ≤ (wrap64 (a1 + x18_2))) = false := decide_eq_false c7
                clear c7
                obtain ⟨ji8, hji8⟩ : ∃ j_ : Int, (wrap64 (a1 + x18_2)) = j_ := ⟨_, rfl⟩
                replace H : (if 0 ≤ (ji8) then (if (ji8) < (a0.size : Int) then (if x18_2 = 9 then (wire_TakeUint.j2 k2 a0 a1 x7_2 x18_2 (bt a0 (ji8)) x18_2 (decide ((bt a0 (ji8)) > 1))) else (wire_TakeUint.j2 k2 a0 a1 x7_2 x18_2 (bt a0 (ji8)) x18_2 false)) else (none)) else (none)) = some (r1, r2, r3) := by first | (rw [hji8] at H; exact H) | (simp only [hji8] at H ⊢; exact H)
                (try rw [hji8] at c7b0)
                have hji8w : (IntKind.i64.wrap (a1 + x18_2)) = ji8 := (i64_w _).trans hji8
                by_cases c9 : 0 ≤ (ji8)
                · rw [if_pos c9] at H
                  have c9b0 : decide (0 ≤ (ji8)) = true := decide_eq_true c9
                  clear c9
                  by_cases c10 : (ji8) < (a0.size : Int)
                  · rw [if_pos c10] at H
                    have c10b0 : decide ((ji8) < (a0.size : Int)) = true := decide_eq_true c10
                    clear c10
                    have HC12 := Aside0.mk H
                    clear H
                    have p11 : 0 ≤ ((ji8) : Int) := of_decide_eq_true (by first | (with_reducible assumption) | assumption)
                    have q11 : (ji8) < (a0.size : Int) := of_decide_eq_true (by first | (with_reducible assumption) | assumption)
                    have hx11 := bt_at a0 (ji8)
                    replace p11 := eq_true p11
                    replace q11 := eq_true q11
                    go_upto_region 10 with (fail)
                    go_cut [37] (fun v37 wc => ∃ (kq : Nat) (x37_11 : Bool), v37 = .bool x37_11 ∧ Aside0 (wire_TakeUint.j2 kq a0 a1 x7_2 x18_2 (bt a0 (ji8)) x18_2 x37_11 = some (r1, r2, r3)) ∧ Aside0 (kq ≤ k2) ∧ Drawn0 w wc)
                    case first =>
                      have H := HC12.out
                      clear HC12
                      by_cases c13 : x18_2 = 9
                      · rw [if_pos c13] at H
                        have c13b0 : (x18_2 == 9) = true := beq_iff_eq.mpr c13
                        have c13b1 : (x18_2 != 9) = false := bne_eq_false_iff_eq.mpr c13
                        clear c13
                        (first | rw [c13b0] | (simp only [i64_w, i32_w]; rw [c13b0]) | skip)
                        have H' := Aside0.mk H
                        clear H
                        go_wp2
                        go_meet
                        case rel => exact ⟨_, (decide ((bt a0 (ji8)) > 1)), (by first | rfl | (simp; done) | (simp only [← hji8] <;> (first | rfl | simp)) | (simp [*]; done)), H', ⟨by have := HJ2.out; have := HK2.out; first | omega | exact Nat.le_refl _⟩, by repeat (first | exact Drawn0.refl _ | apply Drawn0.step)⟩
                      · rw [if_neg c13] at H
                        have c13b0 : (x18_2 == 9) = false := beq_eq_false_iff_ne.mpr c13
                        have c13b1 : (x18_2 != 9) = true := bne_iff_ne.mpr c13
                        (first | rw [c13b0] | (simp only [i64_w, i32_w]; rw [c13b0]) | skip)
                        have H' := Aside0.mk H
                        clear H
                        go_wp2
                        go_meet
                        case rel => exact ⟨_, (false), (by first | rfl | (simp; done) | (simp [*]; done)), H', ⟨by have := HJ2.out; have := HK2.out; first | omega | exact Nat.le_refl _⟩, by repeat (first | exact Drawn0.refl _ | apply Drawn0.step)⟩
                    case rest =>
                      clear HC12
                      try clear c1
                      try clear p1
                      try clear q1
                      try clear hx1
                      try clear c2
                      try clear p2
                      try clear c4
                      try clear c4b0
                      try clear c5
                      try clear c6
                      try clear c6b0
                      try clear p6
                      try clear c7
                      try clear c7b0
                      try clear c9
                      try clear c9b0
                      try clear c10
                      try clear c10b0
                      try clear p11
                      try clear q11
                      try clear hx11
                      try clear c13
                      try clear c13b0
                      try clear c13b1
                      try clear p11
                      try clear p2
                      try clear q11
                      obtain ⟨kq, x37_11, rfl, HA, HJ11, ⟨mc11, rfl⟩⟩ := hcut
                      cases kq with
                      | zero => exact absurd HA.out (by simp [wire_TakeUint.j2])
                      | succ kj11 =>
                        have H := HA.out
                        clear HA
                        simp only [wire_TakeUint.j2] at H
                        by_cases c14 : x37_11 = true
                        · subst c14
                          have H1 : (some (0, 0, 5)) = some (r1, r2, r3) := by rw [if_pos rfl] at H; exact H
                          clear H
                          have H := H1
                          clear H1
                          simp only [Option.some.injEq, Prod.mk.injEq] at H
                          obtain ⟨rfl, rfl, rfl⟩ := H
                          go_wp2
                          go_ret3
                          exact ⟨by first | rfl | (simp; done) | (simp only [← hji8] <;> (first | rfl | simp)) | (simp [*]; done), by repeat (first | exact Drawn0.refl _ | apply Drawn0.step)⟩
                        · replace c14 := Bool.eq_false_iff.mpr c14
                          subst c14
                          have H1 : (if 0 ≤ (wrap64 (7 * x18_2)) then (if (bt a0 (ji8)) < 128 then (if (bt a0 (ji8)) = 0 then (if x18_2 > 0 then (some (0, 0, 5)) else (some (Go.bits .or .u64 x7_2 (shl .u64 (IntKind.u64.wrap (Int.tmod (bt a0 (ji8)) 128)) (wrap64 (7 * x18_2))), wrap64 ((wrap64 (a1 + x18_2)) + 1), 0))) else (some (Go.bits .or .u64 x7_2 (shl .u64 (IntKind.u64.wrap (Int.tmod (bt a0 (ji8)) 128)) (wrap64 (7 * x18_2))), wrap64 ((wrap64 (a1 + x18_2)) + 1), 0))) else (wire_TakeUint.l0 kj11 a0 a1 (Go.bits .or .u64 x7_2 (shl .u64 (IntKind.u64.wrap (Int.tmod (bt a0 (ji8)) 128)) (wrap64 (7 * x18_2)))) (wrap64 (x18_2 + 1)))) else (none)) = some (r1, r2, r3) := by rw [if_neg (show ¬ (false = true) by decide)] at H; exact H
                          clear H
                          have H := H1
                          clear H1
                          obtain ⟨ji15, hji15⟩ : ∃ j_ : Int, (wrap64 (7 * x18_2)) = j_ := ⟨_, rfl⟩
                          replace H : (if 0 ≤ (ji15) then (if (bt a0 (ji8)) < 128 then (if (bt a0 (ji8)) = 0 then (if x18_2 > 0 then (some (0, 0, 5)) else (some (Go.bits .or .u64 x7_2 (shl .u64 (IntKind.u64.wrap (Int.tmod (bt a0 (ji8)) 128)) (ji15)), wrap64 ((wrap64 (a1 + x18_2)) + 1), 0))) else (some (Go.bits .or .u64 x7_2 (shl .u64 (IntKind.u64.wrap (Int.tmod (bt a0 (ji8)) 128)) (ji15)), wrap64 ((wrap64 (a1 + x18_2)) + 1), 0))) else (wire_TakeUint.l0 kj11 a0 a1 (Go.bits .or .u64 x7_2 (shl .u64 (IntKind.u64.wrap (Int.tmod (bt a0 (ji8)) 128)) (ji15))) (wrap64 (x18_2 + 1)))) else (none)) = some (r1, r2, r3) := by first | (rw [hji15] at H; exact H) | (simp only [hji15] at H ⊢; exact H)
                          have hji15w : (IntKind.i64.wrap (7 * x18_2)) = ji15 := (i64_w _).trans hji15
                          by_cases c16 : 0 ≤ (ji15)
                          · rw [if_pos c16] at H
                            have c16b0 := eq_true c16
                            have c16b1 : decide (0 ≤ (ji15)) = true := decide_eq_true c16
                            clear c16
                            obtain ⟨ji17, hji17⟩ : ∃ j_ : Int, (shl .u64 (IntKind.u64.wrap (Int.tmod (bt a0 (ji8)) 128)) (ji15)) = j_ := ⟨_, rfl⟩
                            replace H : (if (bt a0 (ji8)) < 128 then (if (bt a0 (ji8)) = 0 then (if x18_2 > 0 then (some (0, 0, 5)) else (some (Go.bits .or .u64 x7_2 (ji17), wrap64 ((wrap64 (a1 + x18_2)) + 1), 0))) else (some (Go.bits .or .u64 x7_2 (ji17), wrap64 ((wrap64 (a1 + x18_2)) + 1), 0))) else (wire_TakeUint.l0 kj11 a0 a1 (Go.bits .or .u64 x7_2 (ji17)) (wrap64 (x18_2 + 1)))) = some (r1, r2, r3) := by first | (rw [hji17] at H; exact H) | (simp only [hji17] at H ⊢; exact H)
                            have hji17_ : (IntKind.u64.wrap ((IntKind.u64.wrap (Int.tmod (bt a0 (ji8)) 128)) * 2 ^ min (ji15).toNat 64)) = ji17 := hji17
                            have hji17z : (ji15) ≤ 64 → (IntKind.u64.wrap ((IntKind.u64.wrap (Int.tmod (bt a0 (ji8)) 128)) * 2 ^ (ji15).toNat)) = ji17 := shl_small hji17
                            by_cases c18 : (bt a0 (ji8)) < 128
                            · rw [if_pos c18] at H
                              have c18b0 : decide ((bt a0 (ji8)) < 128) = true := decide_eq_true c18
                              clear c18
                              by_cases c19 : (bt a0 (ji8)) = 0
                              · rw [if_pos c19] at H
                                have c19b0 : ((bt a0 (ji8)) == 0) = true := beq_iff_eq.mpr c19
                                have c19b1 : ((bt a0 (ji8)) != 0) = false := bne_eq_false_iff_eq.mpr c19
                                clear c19
                                by_cases c20 : x18_2 > 0
                                · rw [if_pos c20] at H
                                  have c20b0 : decide (0 < x18_2) = true := decide_eq_true c20
                                  clear c20
                                  simp only [Option.some.injEq, Prod.mk.injEq] at H
                                  obtain ⟨rfl, rfl, rfl⟩ := H
                                  go_wp2
                                  go_ret3
                                  exact ⟨by first | rfl | (simp; done) | (simp only [← hji8, ← hji15, ← hji17] <;> (first | rfl | simp)) | (simp [*]; done), by repeat (first | exact Drawn0.refl _ | apply Drawn0.step)⟩
                                · rw [if_neg c20] at H
                                  have c20b0 : decide (0 < x18_2) = false := decide_eq_false c20
                                  clear c20
                                  simp only [Option.some.injEq, Prod.mk.injEq] at H
                                  obtain ⟨rfl, rfl, rfl⟩ := H
                                  go_wp2
                                  go_ret3
                                  exact ⟨by first | rfl | (simp; done) | (simp only [← hji8, ← hji15, ← hji17] <;> (first | rfl | simp)) | (simp [*]; done), by repeat (first | exact Drawn0.refl _ | apply Drawn0.step)⟩
                              · rw [if_neg c19] at H
                                have c19b0 : ((bt a0 (ji8)) == 0) = false := beq_eq_false_iff_ne.mpr c19
                                have c19b1 : ((bt a0 (ji8)) != 0) = true := bne_iff_ne.mpr c19
                                simp only [Option.some.injEq, Prod.mk.injEq] at H
                                obtain ⟨rfl, rfl, rfl⟩ := H
                                go_wp2
                                go_ret3
                                exact ⟨by first | rfl | (simp; done) | (simp only [← hji8, ← hji15, ← hji17] <;> (first | rfl | simp)) | (simp [*]; done), by repeat (first | exact Drawn0.refl _ | apply Drawn0.step)⟩
                            · rw [if_neg c18] at H
                              have c18b0 : decide ((bt a0 (ji8)) < 128) = false := decide_eq_false c18
                              clear c18
                              have H' := Aside0.mk H
                              clear H
                              go_wp2
                              go_roundg kj11
                              case measure => have := HJ2.out; have := HK2.out; have := HJ11.out; omega
                              case rel => exact ⟨(Go.bits .or .u64 x7_2 (ji17)), (wrap64 (x18_2 + 1)), (by first | rfl | (simp; done) | (simp only [← hji17] <;> (first | rfl | simp)) | (simp [*]; done)), (by first | rfl | (simp; done) | (simp [*]; done)), H', ⟨by have := HJ2.out; have := HK2.out; have := HJ11.out; omega⟩, by repeat (first | exact Drawn0.refl _ | apply Drawn0.step)⟩
                          · rw [if_neg c16] at H
                            exact absurd H (by simp)
                  · rw [if_neg c10] at H
                    exact absurd H (by simp)
                · rw [if_neg c9] at H
                  exact absurd H (by simp)
            · rw [if_neg c6] at H
              have c6b0 : decide (x18_2 < 10) = false := decide_eq_false c6
              clear c6
              simp only [Option.some.injEq, Prod.mk.injEq] at H
              obtain ⟨rfl, rfl, rfl⟩ := H
              go_wp2
              go_ret3
              exact ⟨by first | rfl | (simp; done) | (simp [*]; done), by repeat (first | exact Drawn0.refl _ | apply Drawn0.step)⟩

/-! ### wire_Uint: function 12 -/
def wire_Uint.l0 : Nat → Int → List Int → Option (ByteArray)
  | 0, _, _ => none
  | k + 1, x0, x3 => if x0 ≥ 128 then (if x3.length < 140737488355328 then (wire_Uint.l0 k (IntKind.u64.wrap (Int.tdiv x0 128)) (x3 ++ [(((Int.tmod x0 128) % 256) + 128) % 256])) else (none)) else (if x3.length < 140737488355328 then (some (strOfNums (x3 ++ [(x0) % 256]))) else (none))
def wire_Uint.f (k : Nat) (a0 : Int) : Option (ByteArray) := wire_Uint.l0 k a0 ([] : List Int)
theorem wire_Uint.mono_l : ∀ k, (∀ y0 y1, LeO (wire_Uint.l0 k y0 y1) (wire_Uint.l0 (k + 1) y0 y1))
  | 0 => fun _ _ r h => by simp [wire_Uint.l0] at h
  | k + 1 => by
    have ih0 := wire_Uint.mono_l k
    · intro y0 y1
      unfold wire_Uint.l0
      repeat' first
      | (with_reducible exact ih0 _ _)
      | (with_reducible exact LeO.refl _)
      | (with_reducible exact LeO.none _)
      | (with_reducible refine LeO.ite ?_ ?_)
      | (with_reducible refine LeO.bind ?_ (fun _ => ?_))
      | exact ih0 _ _
      | exact LeO.none _
      | refine LeO.ite ?_ ?_
      | refine LeO.bind ?_ (fun _ => ?_)
theorem wire_Uint.mono : ∀ a0 k, LeO (wire_Uint.f k a0) (wire_Uint.f (k + 1) a0) := by
  intro a0 k
  have ih0 := wire_Uint.mono_l k
  unfold wire_Uint.f
  repeat' first
      | (with_reducible exact ih0 _ _)
      | (with_reducible exact LeO.refl _)
      | (with_reducible exact LeO.none _)
      | (with_reducible refine LeO.ite ?_ ?_)
      | (with_reducible refine LeO.bind ?_ (fun _ => ?_))
      | exact ih0 _ _
      | exact LeO.none _
      | refine LeO.ite ?_ ?_
      | refine LeO.bind ?_ (fun _ => ?_)
set_option maxHeartbeats 8000000 in
set_option maxRecDepth 100000 in
theorem wire_Uint.calls (k : Nat) (a0 : Int) (r : ByteArray) (w : World) (h : wire_Uint.f k a0 = some r) :
    Calls Try.prog 12 #[.int .u64 a0] w fun e w' => e = .returned (.string r) ∧ Below w.heap.size w w' := by
  obtain ⟨i5, hi5, hz5, hs5, hb5⟩ := info_parts info5
  have Hi5 := Aside0.mk hi5
  have Hz5 := Aside0.mk hz5
  have Hs5 := Aside0.mk hs5
  have Hb5 := Aside0.mk hb5
  clear hi5 hz5 hs5 hb5
  have HB := Aside0.mk (Below.refl w.heap.size w)
  have H : (wire_Uint.l0 k a0 ([] : List Int)) = some r := h
  clear h
  have H' := Aside0.mk H
  clear H
  go_enter Try.func12, Try.ntmps12
  go_wp2
  go_loopg [0, 3] k (fun kq v0 v3 w' => ∃ (x0_1 : Int) (x3_1 : List Int), v0 = .int .u64 x0_1 ∧ Aside0 (wire_Uint.l0 kq x0_1 x3_1 = some r) ∧ Aside0 (kq ≤ k) ∧ Aside0 (Kd.R (Kd.int .u8) 5 w' w.heap.size (fun _ => True) v3 x3_1) ∧ Aside0 (Below w.heap.size w w'))
  case atStart => exact ⟨(a0), (([] : List Int)), (by first | rfl | (simp; done) | (simp [*]; done)), H', ⟨Nat.le_refl _⟩, ⟨by first | exact Kd.R_nil _ _ _ _ _ | exact Kd.N_nil _ _ _ _ _ | exact Kd.V_nil _ _ _ _ _ | exact Kd.Q_nil _ _ _ _ _ | exact Kd.S_nil _ _ _ _ _⟩, ⟨by repeat (first | (with_reducible first | exact HB.out | apply below_alloc | apply pw_below_drewN | apply below_drew1) | exact HB.out)⟩⟩
  case round =>
    clear H'
    try clear c1
    obtain ⟨x0_1, x3_1, rfl, HA, HK1, HO_3, HB⟩ := hrel
    cases gk with
    | zero => exact absurd HA.out (by simp [wire_Uint.l0])
    | succ k1 =>
      have H := HA.out
      clear HA
      simp only [wire_Uint.l0] at H
      by_cases c2 : x0_1 ≥ 128
      · rw [if_pos c2] at H
        have c2b0 : decide (128 ≤ x0_1) = true := decide_eq_true c2
        clear c2
        by_cases c3 : x3_1.length < 140737488355328
        · rw [if_pos c3] at H
          have LMc3 := Aside0.mk c3
          clear c3
          rw [Int.emod_add_emod] at H
          obtain ⟨y101, hy101⟩ : ∃ y_ : List Int, y_ = (x3_1 ++ [(Int.tmod x0_1 128 + 128) % 256]) := ⟨_, rfl⟩
          replace H : (wire_Uint.l0 k1 (IntKind.u64.wrap (Int.tdiv x0_1 128)) y101) = some r := by first | (rw [hy101]; with_reducible exact H) | exact H
          have Ny101 := Aside0.mk hy101
          clear hy101
          have H' := Aside0.mk H
          clear H
          go_wp2_with (first | ((with_reducible refine gate_builtin (b := .append) (xs := #[.tmp 6, .tmp 11]) rfl ?_); at_builtin; refine Kd.R_append (Kd.int .u8) (w0 := w) w.heap.size rfl (.tmp 6) (.tmp 11) 47 5 (.int .u8 0) 1 rfl Try.underlying47 info5 rfl (by decide) (by omega) u3 x3_1 ((Int.tmod x0_1 128 + 128) % 256) [.int .u8 ((Int.tmod x0_1 128 + 128) % 256)] (fun _ => True) (fun _ => False) rfl rfl ?aP (fun _ hk => hk.elim) ?aF ?aO ?aB ?aS ?aL ?_; (case aP => exact rfl); (case aB => exact (by repeat (first | (with_reducible first | exact HB.out | apply below_alloc | apply pw_below_drewN | apply below_drew1) | exact HB.out))); (case aF => exact (fun _ _ => trivial)); (case aO => exact (by (with_reducible repeat (first | apply Kd.R_alloc | apply Kd.R_drewN | apply Kd.R_drew)); exact HO_3.out)); (case aS => exact (below_size (by repeat (first | (with_reducible first | exact HB.out | apply below_alloc | apply pw_below_drewN | apply below_drew1) | exact HB.out)))); (case aL => have := LMc3.out; omega); intro v102 w4 ho hb hg hat; rw [← Ny101.out] at ho; have n0_ := Aside0.mk (hb); have n1_ := Aside0.mk (ho); clear HB; clear HO_3; have HB := n0_; have HO103 := n1_; clear n0_ n1_; clear ho hb hg hat))
          go_roundg k1
          case measure => have := HK1.out; omega
          case rel => exact ⟨(IntKind.u64.wrap (Int.tdiv x0_1 128)), (y101), (by first | rfl | (simp; done) | (simp [*]; done)), H', ⟨by have := HK1.out; omega⟩, ⟨by (with_reducible repeat (first | apply Kd.R_alloc | apply Kd.R_drewN | apply Kd.R_drew)); exact HO103.out⟩, ⟨by repeat (first | (with_reducible first | exact HB.out | apply below_alloc | apply pw_below_drewN | apply below_drew1) | exact HB.out)⟩⟩
        · rw [if_neg c3] at H
          exact absurd H (by simp)
      · rw [if_neg c2] at H
        have c2b0 : decide (128 ≤ x0_1) = false := decide_eq_false c2
        clear c2
        by_cases c5 : x3_1.length < 140737488355328
        · rw [if_pos c5] at H
          have LMc5 := Aside0.mk c5
          clear c5
          have Hr := Aside0.mk (Option.some.inj H)
          clear H
          have Hown := Aside0.mk (Kd.own_of_R HO_3.out)
          clear HO_3
          obtain ⟨hlx, hcase⟩ := Hown.out
          clear hlx
          rcases hcase with ⟨rfl, hn⟩ | ⟨g, cap, cur, rfl, hgb, hcells, hnc, hcm, hcs, htake⟩
          · obtain rfl : x3_1 = [] := List.eq_nil_of_length_eq_zero hn
            clear hn
            go_wp2_with (first | ((with_reducible refine gate_builtin (b := .append) (xs := #[.tmp 20, .tmp 23]) rfl ?_); at_builtin; refine wpList_append_grows _ rfl (.tmp 20) (.tmp 23) 47 rfl 5 i5 (.int .u8 0) 1 1 Try.underlying47 Hi5.out Hz5.out Hs5.out Hb5.out rfl (by decide) none 0 0 [] rfl (fun _ => ⟨rfl, rfl⟩) rfl (fun _ e => by cases e) ⟨wr.heap.size, 0, none⟩ 1 1 [.int .u8 (x0_1 % 256)] rfl rfl ?c1 ?c2 (by decide) (by decide) (by decide) ?_; (case c1 => exact cell_one_new _ _ _); (case c2 => simp [Value.oneCell']); intro v105 w7 hown hg; have HO := Aside0.mk hown; have HG := Aside0.mk hg; clear hown hg; have hcv := own_string (P := Try.prog) (xs := [x0_1 % 256]) Try.underlying47 Try.underlying5 Try.underlying9 HO.out))
            go_ret
            exact ⟨by rw [← Hr.out]; rfl, (below_alloc HB.out _).grown HG.out (below_alloc HB.out _).size (fun k hk => by cases hk)⟩
          · have Hnc := Aside0.mk hnc
            clear hcells htake hcs hcm hgb hnc
            have hsl : ∀ wx, (Instr.slice 47 (.slice (some ⟨g, 0, none⟩) x3_1.length cap) none (some (.int .i64 x3_1.length)) (some (.int .i64 x3_1.length))).run Try.prog wx = .ok (.slice (some ⟨g, 0, none⟩) x3_1.length x3_1.length) wx := by
              intro wx
              have hel : Try.prog.elem 47 = 5 := by kernel_rfl
              have hsz : (sizeOf 5).run Try.prog wx = .ok 1 wx := by simp [sizeOf, typeInfo, Hi5.out, Hs5.out]
              have hcap := Hnc.out
              rw [run_slice_hm wx 47 _ _ _ (by rw [hel]; exact Try.underlying47) .i64 .i64 _ _ (by omega) (by omega) (by omega), hel, hsz]
              have ha : (⟨g, 0, none⟩ : Addr).add 0 = ⟨g, 0, none⟩ := by unfold Addr.add; split <;> simp_all
              simp [Result.andThen, sliced, ha]
            go_wp2_with (first | ((with_reducible refine gate_builtin (b := .append) (xs := #[.tmp 20, .tmp 23]) rfl ?_); at_builtin; refine wpList_append_grows _ rfl (.tmp 20) (.tmp 23) 47 rfl 5 i5 (.int .u8 0) 1 1 Try.underlying47 Hi5.out Hz5.out Hs5.out Hb5.out rfl (by decide) (some ⟨g, 0, none⟩) x3_1.length x3_1.length (encs (Value.int .u8) x3_1) rfl (fun h => by cases h) ?c0 ?ch ⟨wr.heap.size, 0, none⟩ 1 1 [.int .u8 (x0_1 % 256)] rfl rfl ?c1 ?c2 ?c3 ?c4 ?c5 ?_; (case c0 => simp [encs]); (case ch => intro b hb j u hj; cases hb; exact (Hown.out.alloc _).cells (g := g) rfl j u hj); (case c1 => exact cell_one_new _ _ _); (case c2 => simp [Value.oneCell']); (case c3 => omega); (case c4 => have := LMc5.out; unfold maxLen; omega); (case c5 => have := LMc5.out; omega); intro v105 w7 hown hg; have HO := Aside0.mk hown; have HG := Aside0.mk hg; clear hown hg; have hcv := own_string (P := Try.prog) (xs := x3_1 ++ [x0_1 % 256]) Try.underlying47 Try.underlying5 Try.underlying9 (by rw [nums, List.map_append]; exact HO.out)))
            go_ret
            exact ⟨by rw [← Hr.out]; rfl, (below_alloc HB.out _).grown HG.out (below_alloc HB.out _).size (fun k hk => by cases hk)⟩
        · rw [if_neg c5] at H
          exact absurd H (by simp)
/-! ### wire_TakeInt: function 14 -/
def wire_TakeInt.f (k : Nat) (a0 : ByteArray) (a1 : Int) : Option (Int × Int × Int) := (wire_TakeUint.f k a0 a1).bind fun bt107 => (if bt107.2.2 = 0 then (some (wrap64 (Go.bits .xor .u64 (bt107.1 / 2) (IntKind.u64.wrap (-(Go.bits .and .u64 bt107.1 1)))), bt107.2.1, 0)) else (some (0, 0, bt107.2.2)))
theorem wire_TakeInt.mono : ∀ a0 a1 k, LeO (wire_TakeInt.f k a0 a1) (wire_TakeInt.f (k + 1) a0 a1) := by
  intro a0 a1 k
  unfold wire_TakeInt.f
  repeat' first
      | (with_reducible exact wire_TakeUint.mono _ _ _)
      | (with_reducible exact LeO.refl _)
      | (with_reducible exact LeO.none _)
      | (with_reducible refine LeO.ite ?_ ?_)
      | (with_reducible refine LeO.bind ?_ (fun _ => ?_))
      | exact wire_TakeUint.mono _ _ _
      | exact LeO.none _
      | refine LeO.ite ?_ ?_
      | refine LeO.bind ?_ (fun _ => ?_)
set_option maxHeartbeats 8000000 in
set_option maxRecDepth 100000 in
theorem wire_TakeInt.calls (k : Nat) (a0 : ByteArray) (a1 : Int) (r1 : Int) (r2 : Int) (r3 : Int) (w : World) (h : wire_TakeInt.f k a0 a1 = some (r1, r2, r3)) :
    Calls Try.prog 14 #[.string a0, .int .i64 a1] w fun e w' => e = .returned (.tuple #[.int .i64 r1, .int .i64 r2, .int .i64 r3]) ∧ Drawn0 w w' := by
  have H : ((wire_TakeUint.f k a0 a1).bind fun bt107 => (if bt107.2.2 = 0 then (some (wrap64 (Go.bits .xor .u64 (bt107.1 / 2) (IntKind.u64.wrap (-(Go.bits .and .u64 bt107.1 1)))), bt107.2.1, 0)) else (some (0, 0, bt107.2.2)))) = some (r1, r2, r3) := h
  clear h
  replace H := Option.bind_eq_some_iff.mp H
  obtain ⟨⟨t107, t108, t109⟩, A30, H⟩ := H
  replace H : (if t109 = 0 then (some (wrap64 (Go.bits .xor .u64 (t107 / 2) (IntKind.u64.wrap (-(Go.bits .and .u64 t107 1)))), t108, 0)) else (some (0, 0, t109))) = some (r1, r2, r3) := H
  have A3 := Aside0.mk A30
  clear A30
  by_cases c4 : t109 = 0
  · rw [if_pos c4] at H
    have c4b0 : (t109 == 0) = true := beq_iff_eq.mpr c4
    have c4b1 : (t109 != 0) = false := bne_eq_false_iff_eq.mpr c4
    clear c4
    simp only [Option.some.injEq, Prod.mk.injEq] at H
    obtain ⟨rfl, rfl, rfl⟩ := H
    go_enter Try.func14, Try.ntmps14
    go_wp2_with (first | ((with_reducible refine gate_callee (f := 10) rfl ?_); refine goesL_ (some 13) rfl rfl Try.func10 (by kernel_rfl) rfl #[.string a0, .int .i64 a1] rfl (by (try simp only [List.map_toArray, List.map_cons, List.map_nil]); first | done | rfl | (simp only [List.length_drop, List.length_take]; rfl)) ?_; (with_reducible refine (wire_TakeUint.calls k a0 a1 t107 t108 t109 _ A3.out).mono ?_); rintro e w' ⟨rfl, ⟨nd, rfl⟩⟩; refine ⟨_, rfl, ?_⟩))
    go_ret3
    exact ⟨by first | rfl | (simp; done) | (simp [*]; done), by repeat (first | exact Drawn0.refl _ | apply Drawn0.step)⟩
  · rw [if_neg c4] at H
    have c4b0 : (t109 == 0) = false := beq_eq_false_iff_ne.mpr c4
    have c4b1 : (t109 != 0) = true := bne_iff_ne.mpr c4
    simp only [Option.some.injEq, Prod.mk.injEq] at H
    obtain ⟨rfl, rfl, rfl⟩ := H
    go_enter Try.func14, Try.ntmps14
    go_wp2_with (first | ((with_reducible refine gate_callee (f := 10) rfl ?_); refine goesL_ (some 13) rfl rfl Try.func10 (by kernel_rfl) rfl #[.string a0, .int .i64 a1] rfl (by (try simp only [List.map_toArray, List.map_cons, List.map_nil]); first | done | rfl | (simp only [List.length_drop, List.length_take]; rfl)) ?_; (with_reducible refine (wire_TakeUint.calls k a0 a1 t107 t108 t109 _ A3.out).mono ?_); rintro e w' ⟨rfl, ⟨nd, rfl⟩⟩; refine ⟨_, rfl, ?_⟩))
    go_ret3
    exact ⟨by first | rfl | (simp; done) | (simp [*]; done), by repeat (first | exact Drawn0.refl _ | apply Drawn0.step)⟩

/-! ### wire_Int: function 16 -/
def wire_Int.f (k : Nat) (a0 : Int) : Option (ByteArray) := (wire_Uint.f k (Go.bits .xor .u64 (IntKind.u64.wrap ((IntKind.u64.wrap (a0)) * 2)) (IntKind.u64.wrap (a0 / 9223372036854775808)))).bind fun t110 => (some t110)
theorem wire_Int.mono : ∀ a0 k, LeO (wire_Int.f k a0) (wire_Int.f (k + 1) a0) := by
  intro a0 k
  unfold wire_Int.f
  repeat' first
      | (with_reducible exact wire_Uint.mono _ _)
      | (with_reducible exact LeO.refl _)
      | (with_reducible exact LeO.none _)
      | (with_reducible refine LeO.ite ?_ ?_)
      | (with_reducible refine LeO.bind ?_ (fun _ => ?_))
      | exact wire_Uint.mono _ _
      | exact LeO.none _
      | refine LeO.ite ?_ ?_
      | refine LeO.bind ?_ (fun _ => ?_)
set_option maxHeartbeats 8000000 in
set_option maxRecDepth 100000 in
theorem wire_Int.calls (k : Nat) (a0 : Int) (r : ByteArray) (w : World) (h : wire_Int.f k a0 = some r) :
    Calls Try.prog 16 #[.int .i64 a0] w fun e w' => e = .returned (.string r) ∧ Below w.heap.size w w' := by
  have HB := Aside0.mk (Below.refl w.heap.size w)
  have H : ((wire_Uint.f k (Go.bits .xor .u64 (IntKind.u64.wrap ((IntKind.u64.wrap (a0)) * 2)) (IntKind.u64.wrap (a0 / 9223372036854775808)))).bind fun t110 => (some t110)) = some r := h
  clear h
  replace H := Option.bind_eq_some_iff.mp H
  obtain ⟨t110, A20, H⟩ := H
  replace H : (some t110) = some r := H
  have A2 := Aside0.mk A20
  clear A20
  obtain rfl := Option.some.inj H
  go_enter Try.func16, Try.ntmps16
  go_wp2_with (first | ((with_reducible refine gate_callee (f := 12) rfl ?_); refine goesL_ (some 10) rfl rfl Try.func12 (by kernel_rfl) rfl #[.int .u64 (Go.bits .xor .u64 (IntKind.u64.wrap ((IntKind.u64.wrap (a0)) * 2)) (IntKind.u64.wrap (a0 / 9223372036854775808)))] rfl (by (try simp only [List.map_toArray, List.map_cons, List.map_nil]); first | done | rfl | (simp only [List.length_drop, List.length_take]; rfl)) ?_; (with_reducible refine (wire_Uint.calls k (Go.bits .xor .u64 (IntKind.u64.wrap ((IntKind.u64.wrap (a0)) * 2)) (IntKind.u64.wrap (a0 / 9223372036854775808))) t110 _ A2.out).mono ?_); rintro e w3 ⟨rfl, hb⟩; refine ⟨_, rfl, ?_⟩; have n0_ := Aside0.mk (below_step (by repeat (first | (with_reducible first | exact HB.out | apply below_alloc | apply pw_below_drewN | apply below_drew1) | exact HB.out)) hb); clear HB; have HB := n0_; clear n0_; (try clear hb); (try clear hb2); (try clear hk); (try clear hi)))
  go_ret
  exact ⟨by first | rfl | (simp [errW_none, errW_some] <;> rfl) | (simp [*, errW_none, errW_some] <;> rfl), by repeat (first | (with_reducible first | exact HB.out | apply below_alloc | apply pw_below_drewN | apply below_drew1) | exact HB.out)⟩

/-! ### wire_TakeCount: function 20 -/
def wire_TakeCount.j0 : Nat → ByteArray → Int → Int → Bool → Option (Int × Int × Int)
  | 0, _, _, _, _ => none
  | k + 1, x0, x9, x10, x23 => if x23 = true then (some (0, 0, 2)) else (if x9 > (IntKind.u64.wrap (wrap64 ((x0.size : Int) - x10))) then (some (0, 0, 4)) else (some (wrap64 (x9), x10, 0)))
def wire_TakeCount.f (k : Nat) (a0 : ByteArray) (a1 : Int) (a2 : Int) : Option (Int × Int × Int) := (wire_TakeUint.f k a0 a1).bind fun bt111 => (if bt111.2.2 = 0 then (if a2 < 0 then (wire_TakeCount.j0 k a0 bt111.1 bt111.2.1 true) else (wire_TakeCount.j0 k a0 bt111.1 bt111.2.1 (decide (bt111.1 > (IntKind.u64.wrap (a2)))))) else (some (0, 0, bt111.2.2)))
theorem wire_TakeCount.mono_l : ∀ k, (∀ y0 y1 y2 y3, LeO (wire_TakeCount.j0 k y0 y1 y2 y3) (wire_TakeCount.j0 (k + 1) y0 y1 y2 y3))
  | 0 => fun _ _ _ _ r h => by simp [wire_TakeCount.j0] at h
  | k + 1 => by
    have ih0 := wire_TakeCount.mono_l k
    · intro y0 y1 y2 y3
      unfold wire_TakeCount.j0
      repeat' first
      | (with_reducible exact ih0 _ _ _ _)
      | (with_reducible exact wire_TakeUint.mono _ _ _)
      | (with_reducible exact LeO.refl _)
      | (with_reducible exact LeO.none _)
      | (with_reducible refine LeO.ite ?_ ?_)
      | (with_reducible refine LeO.bind ?_ (fun _ => ?_))
      | exact ih0 _ _ _ _
      | exact wire_TakeUint.mono _ _ _
      | exact LeO.none _
      | refine LeO.ite ?_ ?_
      | refine LeO.bind ?_ (fun _ => ?_)
theorem wire_TakeCount.mono : ∀ a0 a1 a2 k, LeO (wire_TakeCount.f k a0 a1 a2) (wire_TakeCount.f (k + 1) a0 a1 a2) := by
  intro a0 a1 a2 k
  have ih0 := wire_TakeCount.mono_l k
  unfold wire_TakeCount.f
  repeat' first
      | (with_reducible exact ih0 _ _ _ _)
      | (with_reducible exact wire_TakeUint.mono _ _ _)
      | (with_reducible exact LeO.refl _)
      | (with_reducible exact LeO.none _)
      | (with_reducible refine LeO.ite ?_ ?_)
      | (with_reducible refine LeO.bind ?_ (fun _ => ?_))
      | exact ih0 _ _ _ _
      | exact wire_TakeUint.mono _ _ _
      | exact LeO.none _
      | refine LeO.ite ?_ ?_
      | refine LeO.bind ?_ (fun _ => ?_)
set_option maxHeartbeats 8000000 in
set_option maxRecDepth 100000 in
theorem wire_TakeCount.calls (k : Nat) (a0 : ByteArray) (a1 : Int) (a2 : Int) (r1 : Int) (r2 : Int) (r3 : Int) (w : World) (h : wire_TakeCount.f k a0 a1 a2 = some (r1, r2, r3)) :
    Calls Try.prog 20 #[.string a0, .int .i64 a1, .int .i64 a2] w fun e w' => e = .returned (.tuple #[.int .i64 r1, .int .i64 r2, .int .i64 r3]) ∧ Drawn0 w w' := by
  have H : ((wire_TakeUint.f k a0 a1).bind fun bt111 => (if bt111.2.2 = 0 then (if a2 < 0 then (wire_TakeCount.j0 k a0 bt111.1 bt111.2.1 true) else (wire_TakeCount.j0 k a0 bt111.1 bt111.2.1 (decide (bt111.1 > (IntKind.u64.wrap (a2)))))) else (some (0, 0, bt111.2.2)))) = some (r1, r2, r3) := h
  clear h
  replace H := Option.bind_eq_some_iff.mp H
  obtain ⟨⟨t111, t112, t113⟩, A40, H⟩ := H
  replace H : (if t113 = 0 then (if a2 < 0 then (wire_TakeCount.j0 k a0 t111 t112 true) else (wire_TakeCount.j0 k a0 t111 t112 (decide (t111 > (IntKind.u64.wrap (a2)))))) else (some (0, 0, t113))) = some (r1, r2, r3) := H
  have A4 := Aside0.mk A40
  clear A40
  by_cases c5 : t113 = 0
  · rw [if_pos c5] at H
    have c5b0 : (t113 == 0) = true := beq_iff_eq.mpr c5
    have c5b1 : (t113 != 0) = false := bne_eq_false_iff_eq.mpr c5
    clear c5
    have HC6 := Aside0.mk H
    clear H
    go_enter Try.func20, Try.ntmps20
    go_upto_region 4 with (first | ((with_reducible refine gate_callee (f := 10) rfl ?_); refine goesL_ (some 15) rfl rfl Try.func10 (by kernel_rfl) rfl #[.string a0, .int .i64 a1] rfl (by (try simp only [List.map_toArray, List.map_cons, List.map_nil]); first | done | rfl | (simp only [List.length_drop, List.length_take]; rfl)) ?_; (with_reducible refine (wire_TakeUint.calls k a0 a1 t111 t112 t113 _ A4.out).mono ?_); rintro e w' ⟨rfl, ⟨nd, rfl⟩⟩; refine ⟨_, rfl, ?_⟩))
    (try simp only [Act.put, List.setIfInBounds_toArray, List.set_cons_zero, List.set_cons_succ])
    go_cut [23] (fun v23 wc => ∃ (kq : Nat) (x23_5 : Bool), v23 = .bool x23_5 ∧ Aside0 (wire_TakeCount.j0 kq a0 t111 t112 x23_5 = some (r1, r2, r3)) ∧ Aside0 (kq ≤ k) ∧ Drawn0 w wc)
    case first =>
      have H := HC6.out
      clear HC6
      by_cases c7 : a2 < 0
      · rw [if_pos c7] at H
        have c7b0 : decide (a2 < 0) = true := decide_eq_true c7
        clear c7
        (first | rw [c7b0] | (simp only [i64_w, i32_w]; rw [c7b0]) | skip)
        have H' := Aside0.mk H
        clear H
        go_wp2
        go_meet
        case rel => exact ⟨_, (true), (by first | rfl | (simp; done) | (simp [*]; done)), H', ⟨by first | omega | exact Nat.le_refl _⟩, by repeat (first | exact Drawn0.refl _ | apply Drawn0.step)⟩
      · rw [if_neg c7] at H
        have c7b0 : decide (a2 < 0) = false := decide_eq_false c7
        clear c7
        (first | rw [c7b0] | (simp only [i64_w, i32_w]; rw [c7b0]) | skip)
        have H' := Aside0.mk H
        clear H
        go_wp2
        go_meet
        case rel => exact ⟨_, (decide (t111 > (IntKind.u64.wrap (a2)))), (by first | rfl | (simp; done) | (simp [*]; done)), H', ⟨by first | omega | exact Nat.le_refl _⟩, by repeat (first | exact Drawn0.refl _ | apply Drawn0.step)⟩
    case rest =>
      clear HC6
      try clear c1
      try clear c2
      try clear p2
      try clear c5
      try clear c5b0
      try clear c5b1
      try clear c7
      try clear c7b0
      obtain ⟨kq, x23_5, rfl, HA, HJ5, ⟨mc5, rfl⟩⟩ := hcut
      cases kq with
      | zero => exact absurd HA.out (by simp [wire_TakeCount.j0])
      | succ kj5 =>
        have H := HA.out
        clear HA
        simp only [wire_TakeCount.j0] at H
        by_cases c8 : x23_5 = true
        · subst c8
          have H1 : (some (0, 0, 2)) = some (r1, r2, r3) := by rw [if_pos rfl] at H; exact H
          clear H
          have H := H1
          clear H1
          simp only [Option.some.injEq, Prod.mk.injEq] at H
          obtain ⟨rfl, rfl, rfl⟩ := H
          go_wp2
          go_ret3
          exact ⟨by first | rfl | (simp; done) | (simp [*]; done), by repeat (first | exact Drawn0.refl _ | apply Drawn0.step)⟩
        · replace c8 := Bool.eq_false_iff.mpr c8
          subst c8
          have H1 : (if t111 > (IntKind.u64.wrap (wrap64 ((a0.size : Int) - t112))) then (some (0, 0, 4)) else (some (wrap64 (t111), t112, 0))) = some (r1, r2, r3) := by rw [if_neg (show ¬ (false = true) by decide)] at H; exact H
          clear H
          have H := H1
          clear H1
          by_cases c9 : t111 > (IntKind.u64.wrap (wrap64 ((a0.size : Int) - t112)))
          · rw [if_pos c9] at H
            have c9b0 : decide ((IntKind.u64.wrap (wrap64 ((a0.size : Int) - t112))) < t111) = true := decide_eq_true c9
            clear c9
            simp only [Option.some.injEq, Prod.mk.injEq] at H
            obtain ⟨rfl, rfl, rfl⟩ := H
            go_wp2
            go_ret3
            exact ⟨by first | rfl | (simp; done) | (simp [*]; done), by repeat (first | exact Drawn0.refl _ | apply Drawn0.step)⟩
          · rw [if_neg c9] at H
            have c9b0 : decide ((IntKind.u64.wrap (wrap64 ((a0.size : Int) - t112))) < t111) = false := decide_eq_false c9
            clear c9
            simp only [Option.some.injEq, Prod.mk.injEq] at H
            obtain ⟨rfl, rfl, rfl⟩ := H
            go_wp2
            go_ret3
            exact ⟨by first | rfl | (simp; done) | (simp [*]; done), by repeat (first | exact Drawn0.refl _ | apply Drawn0.step)⟩
  · rw [if_neg c5] at H
    have c5b0 : (t113 == 0) = false := beq_eq_false_iff_ne.mpr c5
    have c5b1 : (t113 != 0) = true := bne_iff_ne.mpr c5
    simp only [Option.some.injEq, Prod.mk.injEq] at H
    obtain ⟨rfl, rfl, rfl⟩ := H
    go_enter Try.func20, Try.ntmps20
    go_wp2_with (first | ((with_reducible refine gate_callee (f := 10) rfl ?_); refine goesL_ (some 15) rfl rfl Try.func10 (by kernel_rfl) rfl #[.string a0, .int .i64 a1] rfl (by (try simp only [List.map_toArray, List.map_cons, List.map_nil]); first | done | rfl | (simp only [List.length_drop, List.length_take]; rfl)) ?_; (with_reducible refine (wire_TakeUint.calls k a0 a1 t111 t112 t113 _ A4.out).mono ?_); rintro e w' ⟨rfl, ⟨nd, rfl⟩⟩; refine ⟨_, rfl, ?_⟩))
    go_ret3
    exact ⟨by first | rfl | (simp; done) | (simp [*]; done), by repeat (first | exact Drawn0.refl _ | apply Drawn0.step)⟩

theorem ext_at (s : ByteArray) (l m j : Nat) (h : j < (s.extract l m).data.toList.length) : (s.extract l m).data.toList[j] = s.data.toList.getD (l + j) 0 := by
  have h2 := h
  rw [ByteArray.data_extract, Array.length_toList, Array.size_extract] at h2
  simp only [ByteArray.data_extract, Array.getElem_toList, Array.getElem_extract]
  rw [List.getD_eq_getElem?_getD, List.getElem?_eq_getElem (by rw [Array.length_toList]; omega)]
  simp
theorem bytes_below (w : World) (nd : Nat) (e : Nat) (s : ByteArray) : Below w.heap.size w (Lib.bytesWorld (w.drewN nd) e s) := by
  refine ⟨rfl, rfl, rfl, ?_, fun k hk => Lib.bytesWorld_at_old (w.drewN nd) e s k hk⟩
  rw [Lib.bytesWorld_size]
  exact Nat.le_succ _
/-! ### wire_TakeText: function 18 -/
def wire_TakeText.f (k : Nat) (a0 : ByteArray) (a1 : Int) (a2 : Int) : Option (ByteArray × Int × Int) := (wire_TakeCount.f k a0 a1 a2).bind fun bt114 => (if bt114.2.2 = 0 then (if 0 ≤ bt114.2.1 then (if bt114.2.1 ≤ (wrap64 (bt114.2.1 + bt114.1)) then (if (wrap64 (bt114.2.1 + bt114.1)) ≤ (a0.size : Int) then (some (a0.extract (bt114.2.1 : Int).toNat ((wrap64 (bt114.2.1 + bt114.1)) : Int).toNat, wrap64 (bt114.2.1 + bt114.1), 0)) else (none)) else (none)) else (none)) else (some ((⟨#[]⟩ : ByteArray), 0, bt114.2.2)))
theorem wire_TakeText.mono : ∀ a0 a1 a2 k, LeO (wire_TakeText.f k a0 a1 a2) (wire_TakeText.f (k + 1) a0 a1 a2) := by
  intro a0 a1 a2 k
  unfold wire_TakeText.f
  repeat' first
      | (with_reducible exact wire_TakeCount.mono _ _ _ _)
      | (with_reducible exact LeO.refl _)
      | (with_reducible exact LeO.none _)
      | (with_reducible refine LeO.ite ?_ ?_)
      | (with_reducible refine LeO.bind ?_ (fun _ => ?_))
      | exact wire_TakeCount.mono _ _ _ _
      | exact LeO.none _
      | refine LeO.ite ?_ ?_
      | refine LeO.bind ?_ (fun _ => ?_)
set_option maxHeartbeats 8000000 in
set_option maxRecDepth 100000 in
theorem wire_TakeText.calls (k : Nat) (a0 : ByteArray) (a1 : Int) (a2 : Int) (r1 : ByteArray) (r2 : Int) (r3 : Int) (w : World) (h : wire_TakeText.f k a0 a1 a2 = some (r1, r2, r3)) :
    Calls Try.prog 18 #[.string a0, .int .i64 a1, .int .i64 a2] w fun e w' => e = .returned (.tuple #[.string r1, .int .i64 r2, .int .i64 r3]) ∧ Below w.heap.size w w' := by
  obtain ⟨i5, hi5, hz5, hs5, hb5⟩ := info_parts info5
  have Hi5 := Aside0.mk hi5
  have Hs5 := Aside0.mk hs5
  clear hi5 hz5 hs5 hb5
  have HB := Aside0.mk (Below.refl w.heap.size w)
  have H : ((wire_TakeCount.f k a0 a1 a2).bind fun bt114 => (if bt114.2.2 = 0 then (if 0 ≤ bt114.2.1 then (if bt114.2.1 ≤ (wrap64 (bt114.2.1 + bt114.1)) then (if (wrap64 (bt114.2.1 + bt114.1)) ≤ (a0.size : Int) then (some (a0.extract (bt114.2.1 : Int).toNat ((wrap64 (bt114.2.1 + bt114.1)) : Int).toNat, wrap64 (bt114.2.1 + bt114.1), 0)) else (none)) else (none)) else (none)) else (some ((⟨#[]⟩ : ByteArray), 0, bt114.2.2)))) = some (r1, r2, r3) := h
  clear h
  replace H := Option.bind_eq_some_iff.mp H
  obtain ⟨⟨t114, t115, t116⟩, A40, H⟩ := H
  replace H : (if t116 = 0 then (if 0 ≤ t115 then (if t115 ≤ (wrap64 (t115 + t114)) then (if (wrap64 (t115 + t114)) ≤ (a0.size : Int) then (some (a0.extract (t115 : Int).toNat ((wrap64 (t115 + t114)) : Int).toNat, wrap64 (t115 + t114), 0)) else (none)) else (none)) else (none)) else (some ((⟨#[]⟩ : ByteArray), 0, t116))) = some (r1, r2, r3) := H
  have A4 := Aside0.mk A40
  clear A40
  by_cases c5 : t116 = 0
  · rw [if_pos c5] at H
    have c5b0 : (t116 == 0) = true := beq_iff_eq.mpr c5
    have c5b1 : (t116 != 0) = false := bne_eq_false_iff_eq.mpr c5
    clear c5
    by_cases c6 : 0 ≤ t115
    · rw [if_pos c6] at H
      have c6b0 := eq_true c6
      have c6b1 : decide (0 ≤ t115) = true := decide_eq_true c6
      by_cases c7 : t115 ≤ (wrap64 (t115 + t114))
      · rw [if_pos c7] at H
        by_cases c8 : (wrap64 (t115 + t114)) ≤ (a0.size : Int)
        · rw [if_pos c8] at H
          simp only [Option.some.injEq, Prod.mk.injEq] at H
          obtain ⟨rfl, rfl, rfl⟩ := H
          have hconv : ∀ wx : World, (convert 9 47 (.string a0)).run Try.prog wx = .ok (.slice (some ⟨wx.heap.size, 0, none⟩) a0.size (grownCap wx a0.size 0 5)) (Lib.bytesWorld wx 5 a0) := fun wx => Lib.run_convert_string_bytes wx 9 47 5 a0 Try.underlying9 Try.underlying47 Try.underlying5
          obtain ⟨off, hoff, hat⟩ : ∃ off, sliced (some ⟨w.heap.size, 0, none⟩) t115.toNat (wrap64 (t115 + t114)).toNat (wrap64 (t115 + t114)).toNat 1 = .slice (some ⟨w.heap.size, off, none⟩) ((wrap64 (t115 + t114)).toNat - t115.toNat) ((wrap64 (t115 + t114)).toNat - t115.toNat) ∧ (0 < (wrap64 (t115 + t114)).toNat - t115.toNat → off = t115.toNat) := by
            have ha : ∀ j, (⟨w.heap.size, 0, none⟩ : Addr).add j = ⟨w.heap.size, j, none⟩ := by intro j; unfold Addr.add; split <;> simp_all
            unfold sliced
            by_cases e : (wrap64 (t115 + t114)).toNat = t115.toNat
            · exact ⟨0, by rw [if_pos e], fun h => by omega⟩
            · exact ⟨t115.toNat, by rw [if_neg e]; simp [ha], fun _ => rfl⟩
          have hcut : ∀ nd, (Instr.slice 47 (.slice (some ⟨w.heap.size, 0, none⟩) a0.size (grownCap (w.drewN nd) a0.size 0 5)) (some (.int .i64 t115)) (some (.int .i64 (wrap64 (t115 + t114)))) (some (.int .i64 (wrap64 (t115 + t114))))).run Try.prog (Lib.bytesWorld (w.drewN nd) 5 a0) = .ok (.slice (some ⟨w.heap.size, off, none⟩) ((wrap64 (t115 + t114)).toNat - t115.toNat) ((wrap64 (t115 + t114)).toNat - t115.toNat)) (Lib.bytesWorld (w.drewN nd) 5 a0) := by
            intro nd
            have hel : Try.prog.elem 47 = 5 := by kernel_rfl
            have hsz : (sizeOf 5).run Try.prog (Lib.bytesWorld (w.drewN nd) 5 a0) = .ok 1 (Lib.bytesWorld (w.drewN nd) 5 a0) := by simp [sizeOf, typeInfo, Hi5.out, Hs5.out]
            have hcap := grownCap_ge (w.drewN nd) a0.size 0 5
            rw [run_slice_lhm (Lib.bytesWorld (w.drewN nd) 5 a0) 47 _ _ _ (by rw [hel]; exact Try.underlying47) .i64 .i64 .i64 _ _ _ (by omega) (by omega) (by omega) (by omega), hel, hsz]
            simp only [Result.andThen, hoff]
          have hback : ∀ nd, (convert 47 9 (.slice (some ⟨w.heap.size, off, none⟩) ((wrap64 (t115 + t114)).toNat - t115.toNat) ((wrap64 (t115 + t114)).toNat - t115.toNat))).run Try.prog (Lib.bytesWorld (w.drewN nd) 5 a0) = .ok (.string (a0.extract t115.toNat (wrap64 (t115 + t114)).toNat)) (Lib.bytesWorld (w.drewN nd) 5 a0) := by
            intro nd
            have hl : (a0.extract t115.toNat (wrap64 (t115 + t114)).toNat).data.toList.length = (wrap64 (t115 + t114)).toNat - t115.toNat := by
              rw [ByteArray.data_extract, Array.length_toList, Array.size_extract]
              have : a0.data.size = a0.size := rfl
              omega
            have hb := run_convert_bytes_back (P := Try.prog) (Lib.bytesWorld (w.drewN nd) 5 a0) 47 9 5 ⟨w.heap.size, off, none⟩ ((wrap64 (t115 + t114)).toNat - t115.toNat) (a0.extract t115.toNat (wrap64 (t115 + t114)).toNat).data.toList Try.underlying47 Try.underlying5 Try.underlying9 (fun j hj => by
              have e1 := hat (by omega)
              have ha : (⟨w.heap.size, off, none⟩ : Addr).add j = ⟨w.heap.size, off + j, none⟩ := Addr.add_lit _ _ _
              rw [ha, e1]
              have hc := Lib.bytesWorld_cell (w.drewN nd) 5 a0 (t115.toNat + j) (by omega)
              have hh : (w.drewN nd).heap.size = w.heap.size := rfl
              rw [hh] at hc
              rw [hc]
              rw [ext_at a0 _ _ j hj])
            rw [hl] at hb
            exact hb
          have hsz2 : (w.drewN 0).heap.size = w.heap.size := rfl
          clear hoff hat c6 c7 c8 hsz2
          go_enter Try.func18, Try.ntmps18
          go_wp2_with (first | ((with_reducible refine gate_callee (f := 20) rfl ?_); refine goesL_ (some 17) rfl rfl Try.func20 (by kernel_rfl) rfl #[.string a0, .int .i64 a1, .int .i64 a2] rfl (by (try simp only [List.map_toArray, List.map_cons, List.map_nil]); first | done | rfl | (simp only [List.length_drop, List.length_take]; rfl)) ?_; (with_reducible refine (wire_TakeCount.calls k a0 a1 a2 t114 t115 t116 _ A4.out).mono ?_); rintro e w' ⟨rfl, ⟨nd, rfl⟩⟩; refine ⟨_, rfl, ?_⟩))
          go_ret3
          exact ⟨by first | rfl | (simp; done) | (simp [*]; done), bytes_below _ _ _ _⟩
        · rw [if_neg c8] at H
          exact absurd H (by simp)
      · rw [if_neg c7] at H
        exact absurd H (by simp)
    · rw [if_neg c6] at H
      exact absurd H (by simp)
  · rw [if_neg c5] at H
    have c5b0 : (t116 == 0) = false := beq_eq_false_iff_ne.mpr c5
    have c5b1 : (t116 != 0) = true := bne_iff_ne.mpr c5
    simp only [Option.some.injEq, Prod.mk.injEq] at H
    obtain ⟨rfl, rfl, rfl⟩ := H
    go_enter Try.func18, Try.ntmps18
    go_wp2_with (first | ((with_reducible refine gate_callee (f := 20) rfl ?_); refine goesL_ (some 17) rfl rfl Try.func20 (by kernel_rfl) rfl #[.string a0, .int .i64 a1, .int .i64 a2] rfl (by (try simp only [List.map_toArray, List.map_cons, List.map_nil]); first | done | rfl | (simp only [List.length_drop, List.length_take]; rfl)) ?_; (with_reducible refine (wire_TakeCount.calls k a0 a1 a2 t114 t115 t116 _ A4.out).mono ?_); rintro e w' ⟨rfl, ⟨nd, rfl⟩⟩; refine ⟨_, rfl, ?_⟩))
    go_ret3
    exact ⟨by first | rfl | (simp; done) | (simp [*]; done), by repeat (first | (with_reducible first | exact HB.out | apply below_alloc | apply pw_below_drewN | apply below_drew1) | exact HB.out)⟩
/-! ### wire_Text: function 22 -/
def wire_Text.f (k : Nat) (a0 : ByteArray) : Option (ByteArray) := (wire_Uint.f k (IntKind.u64.wrap ((a0.size : Int)))).bind fun t120 => (if t120.size + a0.size ≤ 9223372036854775807 then (some (t120 ++ a0)) else (none))
theorem wire_Text.mono : ∀ a0 k, LeO (wire_Text.f k a0) (wire_Text.f (k + 1) a0) := by
  intro a0 k
  unfold wire_Text.f
  repeat' first
      | (with_reducible exact wire_Uint.mono _ _)
      | (with_reducible exact LeO.refl _)
      | (with_reducible exact LeO.none _)
      | (with_reducible refine LeO.ite ?_ ?_)
      | (with_reducible refine LeO.bind ?_ (fun _ => ?_))
      | exact wire_Uint.mono _ _
      | exact LeO.none _
      | refine LeO.ite ?_ ?_
      | refine LeO.bind ?_ (fun _ => ?_)
set_option maxHeartbeats 8000000 in
set_option maxRecDepth 100000 in
theorem wire_Text.calls (k : Nat) (a0 : ByteArray) (r : ByteArray) (w : World) (h : wire_Text.f k a0 = some r) :
    Calls Try.prog 22 #[.string a0] w fun e w' => e = .returned (.string r) ∧ Below w.heap.size w w' := by
  have HB := Aside0.mk (Below.refl w.heap.size w)
  have H : ((wire_Uint.f k (IntKind.u64.wrap ((a0.size : Int)))).bind fun t120 => (if t120.size + a0.size ≤ 9223372036854775807 then (some (t120 ++ a0)) else (none))) = some r := h
  clear h
  replace H := Option.bind_eq_some_iff.mp H
  obtain ⟨t120, A20, H⟩ := H
  replace H : (if t120.size + a0.size ≤ 9223372036854775807 then (some (t120 ++ a0)) else (none)) = some r := H
  have A2 := Aside0.mk A20
  clear A20
  by_cases c3 : t120.size + a0.size ≤ 9223372036854775807
  · rw [if_pos c3] at H
    have c3b0 := eq_true c3
    have c3b1 : decide (t120.size + a0.size ≤ 9223372036854775807) = true := decide_eq_true c3
    try have c3b2 : (9223372036854775807 < t120.size + a0.size) = False := eq_false (Nat.not_lt.2 c3)
    obtain rfl := Option.some.inj H
    rw [show IntKind.u64.wrap (a0.size : Int) = (a0.size : Int) from by rw [IntKind.wrap_u64]; omega] at A2
    go_enter Try.func22, Try.ntmps22
    go_wp2_with (first | ((with_reducible refine gate_callee (f := 12) rfl ?_); refine goesL_ (some 6) rfl rfl Try.func12 (by kernel_rfl) rfl #[.int .u64 (a0.size : Int)] rfl (by (try simp only [List.map_toArray, List.map_cons, List.map_nil]); first | done | rfl | (simp only [List.length_drop, List.length_take]; rfl)) ?_; (with_reducible refine (wire_Uint.calls k (a0.size : Int) t120 _ A2.out).mono ?_); rintro e w4 ⟨rfl, hb⟩; refine ⟨_, rfl, ?_⟩; have n0_ := Aside0.mk (below_step (by repeat (first | (with_reducible first | exact HB.out | apply below_alloc | apply pw_below_drewN | apply below_drew1) | exact HB.out)) hb); clear HB; have HB := n0_; clear n0_; (try clear hb); (try clear hb2); (try clear hk); (try clear hi)))
    go_ret
    exact ⟨by first | rfl | (simp [errW_none, errW_some] <;> rfl) | (simp [*, errW_none, errW_some] <;> rfl), by repeat (first | (with_reducible first | exact HB.out | apply below_alloc | apply pw_below_drewN | apply below_drew1) | exact HB.out)⟩
  · rw [if_neg c3] at H
    exact absurd H (by simp)

/-! ### wire_Bool: function 24 -/
def wire_Bool.f (a0 : Bool) : Option (ByteArray) := if a0 = true then (some (⟨#[1]⟩ : ByteArray)) else (some (⟨#[0]⟩ : ByteArray))
set_option maxHeartbeats 8000000 in
set_option maxRecDepth 100000 in
theorem wire_Bool.calls (a0 : Bool) (r : ByteArray) (w : World) (h : wire_Bool.f a0 = some r) :
    Calls Try.prog 24 #[.bool a0] w fun e w' => e = .returned (.string r) ∧ Drawn0 w w' := by
  have H : (if a0 = true then (some (⟨#[1]⟩ : ByteArray)) else (some (⟨#[0]⟩ : ByteArray))) = some r := h
  clear h
  by_cases c2 : a0 = true
  · subst c2
    have H1 : (some (⟨#[1]⟩ : ByteArray)) = some r := by rw [if_pos rfl] at H; exact H
    clear H
    have H := H1
    clear H1
    obtain rfl := Option.some.inj H
    go_enter Try.func24, Try.ntmps24
    go_wp2
    go_ret
    exact ⟨by first | rfl | (simp; done) | (simp [*]; done), by repeat (first | exact Drawn0.refl _ | apply Drawn0.step)⟩
  · replace c2 := Bool.eq_false_iff.mpr c2
    subst c2
    have H1 : (some (⟨#[0]⟩ : ByteArray)) = some r := by rw [if_neg (show ¬ (false = true) by decide)] at H; exact H
    clear H
    have H := H1
    clear H1
    obtain rfl := Option.some.inj H
    go_enter Try.func24, Try.ntmps24
    go_wp2
    go_ret
    exact ⟨by first | rfl | (simp; done) | (simp [*]; done), by repeat (first | exact Drawn0.refl _ | apply Drawn0.step)⟩

end Go.Proofs.Ytdjndjgafdfkaaa.F
