/- Functions that the laws of this seat reach: for each a plain function, and a proof that the Go code comes to its answers. Out of the kit's print program; mended by hand where it fell. -/
import Derived.Test.YtcpnmlmghjhelaaFx0
import Derived.Test.YtcpnmlmghjhelaaFx2
import Derived.Test.YtcpnmlmghjhelaaFx4
import Derived.Test.YtcpnmlmghjhelaaFx6
namespace Go.Proofs.Ytcpnmlmghjhelaa.F
open Go.RowKit Go.Proofs.YtcpnmlmghjhelaaW.PrintWords Go.Proofs.YtcpnmlmghjhelaaW.PrintLast Go.Proofs.YtcpnmlmghjhelaaW.PrintMore
attribute [local go_sem] max2_int min2_int max_two min_two max_three min_three max_four min_four   -- for this text's walks alone
set_option linter.unusedVariables false
set_option linter.unusedSimpArgs false

/-! ### skirmishlaw48_same: function 9 -/
def skirmishlaw48_same.l0 : Nat → List (S32) → List (S32) → Int → Option (Bool)
  | 0, _, _, _ => none
  | k + 1, x0, x1, x5 => if x5 < (x0.length : Int) then (if 0 ≤ x5 then (if x5 < (x1.length : Int) then ((skirmishref47_SamePacket.f k ((rd_T32 x0 x5).f0) ((rd_T32 x0 x5).f1) ((rd_T32 x0 x5).f2) ((rd_T32 x0 x5).f3) ((rd_T32 x0 x5).f4) ((rd_T32 x0 x5).f5) ((rd_T32 x0 x5).f6) ((rd_T32 x0 x5).f7.f0) ((rd_T32 x0 x5).f7.f1) ((rd_T32 x0 x5).f7.f2) ((rd_T32 x0 x5).f7.f3) ((rd_T32 x0 x5).f8) ((rd_T32 x1 x5).f0) ((rd_T32 x1 x5).f1) ((rd_T32 x1 x5).f2) ((rd_T32 x1 x5).f3) ((rd_T32 x1 x5).f4) ((rd_T32 x1 x5).f5) ((rd_T32 x1 x5).f6) ((rd_T32 x1 x5).f7.f0) ((rd_T32 x1 x5).f7.f1) ((rd_T32 x1 x5).f7.f2) ((rd_T32 x1 x5).f7.f3) ((rd_T32 x1 x5).f8)).bind fun t228 => (if t228 = true then (skirmishlaw48_same.l0 k x0 x1 (wrap64 (x5 + 1))) else (some false))) else (none)) else (none)) else (some true)
def skirmishlaw48_same.f (k : Nat) (l0 : List (S32)) (l1 : List (S32)) : Option (Bool) := if (l0.length : Int) = (l1.length : Int) then (skirmishlaw48_same.l0 k l0 l1 0) else (some false)
theorem skirmishlaw48_same.mono_l : ∀ k, (∀ y0 y1 y2, LeO (skirmishlaw48_same.l0 k y0 y1 y2) (skirmishlaw48_same.l0 (k + 1) y0 y1 y2))
  | 0 => fun _ _ _ r h => by simp [skirmishlaw48_same.l0] at h
  | k + 1 => by
    have ih0 := skirmishlaw48_same.mono_l k
    · intro y0 y1 y2
      unfold skirmishlaw48_same.l0
      repeat' first
      | (with_reducible exact ih0 _ _ _)
      | (with_reducible exact skirmishref47_SamePacket.mono _ _ _ _ _ _ _ _ _ _ _ _ _ _ _ _ _ _ _ _ _ _ _ _ _)
      | (with_reducible exact LeO.refl _)
      | (with_reducible exact LeO.none _)
      | (with_reducible refine LeO.ite ?_ ?_)
      | (with_reducible refine LeO.bind ?_ (fun _ => ?_))
      | exact ih0 _ _ _
      | exact skirmishref47_SamePacket.mono _ _ _ _ _ _ _ _ _ _ _ _ _ _ _ _ _ _ _ _ _ _ _ _ _
      | exact LeO.none _
      | refine LeO.ite ?_ ?_
      | refine LeO.bind ?_ (fun _ => ?_)
theorem skirmishlaw48_same.mono : ∀ a0 a1 k, LeO (skirmishlaw48_same.f k a0 a1) (skirmishlaw48_same.f (k + 1) a0 a1) := by
  intro a0 a1 k
  have ih0 := skirmishlaw48_same.mono_l k
  unfold skirmishlaw48_same.f
  repeat' first
      | (with_reducible exact ih0 _ _ _)
      | (with_reducible exact skirmishref47_SamePacket.mono _ _ _ _ _ _ _ _ _ _ _ _ _ _ _ _ _ _ _ _ _ _ _ _ _)
      | (with_reducible exact LeO.refl _)
      | (with_reducible exact LeO.none _)
      | (with_reducible refine LeO.ite ?_ ?_)
      | (with_reducible refine LeO.bind ?_ (fun _ => ?_))
      | exact ih0 _ _ _
      | exact skirmishref47_SamePacket.mono _ _ _ _ _ _ _ _ _ _ _ _ _ _ _ _ _ _ _ _ _ _ _ _ _
      | exact LeO.none _
      | refine LeO.ite ?_ ?_
      | refine LeO.bind ?_ (fun _ => ?_)
def skirmishlaw48_same.T6 : Bool × List (List Nat × List Nat) := (true, [([], []), ([], []), ([0, 1], [0, 1]), ([2], [2]), ([], []), ([], []), ([4, 5], [4, 5]), ([6], [6]), ([3, 7], [3, 7]), ([8], [8])])
def skirmishlaw48_same.B6 : List Nat := [0, 0, 3, 7, 0, 0, 48, 112, 255, 511]
theorem skirmishlaw48_same.tab6 : rtab .any (opsOf Try.f9 6) = skirmishlaw48_same.T6 := by kernel_rfl
theorem skirmishlaw48_same.bits6 : waitsOk skirmishlaw48_same.T6.2 skirmishlaw48_same.B6 = true := by kernel_rfl
set_option maxHeartbeats 8000000 in
set_option maxRecDepth 100000 in
theorem skirmishlaw48_same.calls (k : Nat) (A0 : Option Addr) (c0 : Nat) (l0 : List (S32)) (A1 : Option Addr) (c1 : Nat) (l1 : List (S32)) (r : Bool) (w : World) (hr0 : Kd.C k32 w A0 l0.length l0) (hc0 : l0.length ≤ c0) (hr1 : Kd.C k32 w A1 l1.length l1) (hc1 : l1.length ≤ c1) (h : skirmishlaw48_same.f k l0 l1 = some r) :
    Calls Try.prog 9 #[.slice A0 l0.length c0, .slice A1 l1.length c1] w fun e w' => e = .returned (.bool r) ∧ Below w.heap.size w w' := by
  have hu32 := Try.underlying32
  have HR0 := Aside0.mk hr0
  have HC0 := Aside0.mk hc0
  clear hr0 hc0
  have HR1 := Aside0.mk hr1
  have HC1 := Aside0.mk hc1
  clear hr1 hc1
  have HB := Aside0.mk (Below.refl w.heap.size w)
  have H : (if (l0.length : Int) = (l1.length : Int) then (skirmishlaw48_same.l0 k l0 l1 0) else (some false)) = some r := h
  clear h
  by_cases c3 : (l0.length : Int) = (l1.length : Int)
  · rw [if_pos c3] at H
    have c3b0 : ((l0.length : Int) == (l1.length : Int)) = true := beq_iff_eq.mpr c3
    have c3b1 : ((l0.length : Int) != (l1.length : Int)) = false := bne_eq_false_iff_eq.mpr c3
    have c3b2 : (l0.length == l1.length) = true := by first | simpa using c3 | (simp at c3 ⊢; omega)
    clear c3
    have H' := Aside0.mk H
    clear H
    go_enter Try.func9, Try.ntmps9
    go_wp2
    go_loopg [5] k (fun kq v5 w' => ∃ (x5_1 : Int), v5 = .int .i64 x5_1 ∧ Aside0 (skirmishlaw48_same.l0 kq l0 l1 x5_1 = some r) ∧ Aside0 (kq ≤ k) ∧ Aside0 (Below w.heap.size w w'))
    case atStart => exact ⟨(0), (by first | rfl | (simp; done) | (simp [*]; done)), H', ⟨Nat.le_refl _⟩, ⟨by repeat (first | (with_reducible first | exact HB.out | apply below_alloc | apply pw_below_drewN | apply below_drew1) | exact HB.out)⟩⟩
    case round =>
      clear H'
      try clear c1
      try clear p2
      try clear c3
      try clear c3b0
      try clear c3b1
      try clear c3b2
      obtain ⟨x5_1, rfl, HA, HK1, HB⟩ := hrel
      cases gk with
      | zero => exact absurd HA.out (by simp [skirmishlaw48_same.l0])
      | succ k1 =>
        have H := HA.out
        clear HA
        simp only [skirmishlaw48_same.l0] at H
        by_cases c4 : x5_1 < (l0.length : Int)
        · rw [if_pos c4] at H
          have c4b0 : decide (x5_1 < (l0.length : Int)) = true := decide_eq_true c4
          clear c4
          by_cases c5 : 0 ≤ x5_1
          · rw [if_pos c5] at H
            have c5b0 : decide (0 ≤ x5_1) = true := decide_eq_true c5
            clear c5
            by_cases c6 : x5_1 < (l1.length : Int)
            · rw [if_pos c6] at H
              have c6b0 : decide (x5_1 < (l1.length : Int)) = true := decide_eq_true c6
              clear c6
              replace H := Option.bind_eq_some_iff.mp H
              obtain ⟨t228, A70, H⟩ := H
              replace H : (if t228 = true then (skirmishlaw48_same.l0 k1 l0 l1 (wrap64 (x5_1 + 1))) else (some false)) = some r := H
              have A7 := Aside0.mk A70
              clear A70
              by_cases c8 : t228 = true
              · subst c8
                have H1 : (skirmishlaw48_same.l0 k1 l0 l1 (wrap64 (x5_1 + 1))) = some r := by rw [if_pos rfl] at H; exact H
                clear H
                have H := H1
                clear H1
                have H' := Aside0.mk H
                clear H
                try go_wp2
                have n0_ := Aside0.mk (below_drew1 HB.out)
                clear HB
                have HB := n0_
                clear n0_
                have p226 : 0 ≤ (x5_1 : Int) := of_decide_eq_true (by first | (with_reducible assumption) | assumption)
                have q226 : x5_1 < (l0.length : Int) := of_decide_eq_true (by first | (with_reducible assumption) | assumption)
                obtain ⟨ad226, A226_10, c226_10, e226, hx226_0, hx226_1, hx226_2, hx226_3, hx226_4, hx226_5, hx226_6, hx226_7, hx226_8, hx226_9, hx226_10, hx226_11, hl226_10, hi226_10⟩ := at_T32 HR0.out x5_1 p226 q226
                have hw226_11 := hx226_11
                have hw226_10 := hx226_10
                have hw226_9 := hx226_9
                have hw226_8 := hx226_8
                have hw226_7 := hx226_7
                have hw226_6 := hx226_6
                have hw226_5 := hx226_5
                have hw226_4 := hx226_4
                have hw226_3 := hx226_3
                have hw226_2 := hx226_2
                have hw226_1 := hx226_1
                have hw226_0 := hx226_0
                cases e226
                replace hx226_0 := (HB.out.cell (World.block_lt_of_cell? w _ hx226_0)).trans hx226_0
                replace hx226_1 := (HB.out.cell (World.block_lt_of_cell? w _ hx226_1)).trans hx226_1
                replace hx226_2 := (HB.out.cell (World.block_lt_of_cell? w _ hx226_2)).trans hx226_2
                replace hx226_3 := (HB.out.cell (World.block_lt_of_cell? w _ hx226_3)).trans hx226_3
                replace hx226_4 := (HB.out.cell (World.block_lt_of_cell? w _ hx226_4)).trans hx226_4
                replace hx226_5 := (HB.out.cell (World.block_lt_of_cell? w _ hx226_5)).trans hx226_5
                replace hx226_6 := (HB.out.cell (World.block_lt_of_cell? w _ hx226_6)).trans hx226_6
                replace hx226_7 := (HB.out.cell (World.block_lt_of_cell? w _ hx226_7)).trans hx226_7
                replace hx226_8 := (HB.out.cell (World.block_lt_of_cell? w _ hx226_8)).trans hx226_8
                replace hx226_9 := (HB.out.cell (World.block_lt_of_cell? w _ hx226_9)).trans hx226_9
                replace hx226_10 := (HB.out.cell (World.block_lt_of_cell? w _ hx226_10)).trans hx226_10
                replace hx226_11 := (HB.out.cell (World.block_lt_of_cell? w _ hx226_11)).trans hx226_11
                have HR226_10 := Aside0.mk hi226_10
                have HC226_10 := Aside0.mk hl226_10
                clear hi226_10 hl226_10
                replace p226 := eq_true p226
                replace q226 := eq_true q226
                have p227 : 0 ≤ (x5_1 : Int) := of_decide_eq_true (by first | (with_reducible assumption) | assumption)
                have q227 : x5_1 < (l1.length : Int) := of_decide_eq_true (by first | (with_reducible assumption) | assumption)
                obtain ⟨ad227, A227_10, c227_10, e227, hx227_0, hx227_1, hx227_2, hx227_3, hx227_4, hx227_5, hx227_6, hx227_7, hx227_8, hx227_9, hx227_10, hx227_11, hl227_10, hi227_10⟩ := at_T32 HR1.out x5_1 p227 q227
                have hw227_11 := hx227_11
                have hw227_10 := hx227_10
                have hw227_9 := hx227_9
                have hw227_8 := hx227_8
                have hw227_7 := hx227_7
                have hw227_6 := hx227_6
                have hw227_5 := hx227_5
                have hw227_4 := hx227_4
                have hw227_3 := hx227_3
                have hw227_2 := hx227_2
                have hw227_1 := hx227_1
                have hw227_0 := hx227_0
                cases e227
                replace hx227_0 := (HB.out.cell (World.block_lt_of_cell? w _ hx227_0)).trans hx227_0
                replace hx227_1 := (HB.out.cell (World.block_lt_of_cell? w _ hx227_1)).trans hx227_1
                replace hx227_2 := (HB.out.cell (World.block_lt_of_cell? w _ hx227_2)).trans hx227_2
                replace hx227_3 := (HB.out.cell (World.block_lt_of_cell? w _ hx227_3)).trans hx227_3
                replace hx227_4 := (HB.out.cell (World.block_lt_of_cell? w _ hx227_4)).trans hx227_4
                replace hx227_5 := (HB.out.cell (World.block_lt_of_cell? w _ hx227_5)).trans hx227_5
                replace hx227_6 := (HB.out.cell (World.block_lt_of_cell? w _ hx227_6)).trans hx227_6
                replace hx227_7 := (HB.out.cell (World.block_lt_of_cell? w _ hx227_7)).trans hx227_7
                replace hx227_8 := (HB.out.cell (World.block_lt_of_cell? w _ hx227_8)).trans hx227_8
                replace hx227_9 := (HB.out.cell (World.block_lt_of_cell? w _ hx227_9)).trans hx227_9
                replace hx227_10 := (HB.out.cell (World.block_lt_of_cell? w _ hx227_10)).trans hx227_10
                replace hx227_11 := (HB.out.cell (World.block_lt_of_cell? w _ hx227_11)).trans hx227_11
                have HR227_10 := Aside0.mk hi227_10
                have HC227_10 := Aside0.mk hl227_10
                clear hi227_10 hl227_10
                replace p227 := eq_true p227
                replace q227 := eq_true q227
                refine start_ (n := 10) (S := fun w' => w'.cell? (ad226.add ((x5_1).toNat * 12)) = some (.int .i64 ((rd_T32 l0 x5_1).f0)) ∧ w'.cell? ⟨(ad226.add ((x5_1).toNat * 12)).block, (ad226.add ((x5_1).toNat * 12)).off + 1, none⟩ = some (.int .i64 ((rd_T32 l0 x5_1).f1)) ∧ w'.cell? ⟨(ad226.add ((x5_1).toNat * 12)).block, (ad226.add ((x5_1).toNat * 12)).off + 2, none⟩ = some (.int .i64 ((rd_T32 l0 x5_1).f2)) ∧ w'.cell? ⟨(ad226.add ((x5_1).toNat * 12)).block, (ad226.add ((x5_1).toNat * 12)).off + 3, none⟩ = some (.int .i64 ((rd_T32 l0 x5_1).f3)) ∧ w'.cell? ⟨(ad226.add ((x5_1).toNat * 12)).block, (ad226.add ((x5_1).toNat * 12)).off + 4, none⟩ = some (.int .i64 ((rd_T32 l0 x5_1).f4)) ∧ w'.cell? ⟨(ad226.add ((x5_1).toNat * 12)).block, (ad226.add ((x5_1).toNat * 12)).off + 5, none⟩ = some (.int .i64 ((rd_T32 l0 x5_1).f5)) ∧ w'.cell? ⟨(ad226.add ((x5_1).toNat * 12)).block, (ad226.add ((x5_1).toNat * 12)).off + 6, none⟩ = some (.int .u64 ((rd_T32 l0 x5_1).f6)) ∧ w'.cell? ⟨(ad226.add ((x5_1).toNat * 12)).block, (ad226.add ((x5_1).toNat * 12)).off + 7, none⟩ = some (.int .i64 ((rd_T32 l0 x5_1).f7.f0)) ∧ w'.cell? ⟨(ad226.add ((x5_1).toNat * 12)).block, (ad226.add ((x5_1).toNat * 12)).off + 8, none⟩ = some (.int .i64 ((rd_T32 l0 x5_1).f7.f1)) ∧ w'.cell? ⟨(ad226.add ((x5_1).toNat * 12)).block, (ad226.add ((x5_1).toNat * 12)).off + 9, none⟩ = some (.int .i64 ((rd_T32 l0 x5_1).f7.f2)) ∧ w'.cell? ⟨(ad226.add ((x5_1).toNat * 12)).block, (ad226.add ((x5_1).toNat * 12)).off + 10, none⟩ = some (.slice A226_10 ((rd_T32 l0 x5_1).f7.f3).length c226_10) ∧ w'.cell? ⟨(ad226.add ((x5_1).toNat * 12)).block, (ad226.add ((x5_1).toNat * 12)).off + 11, none⟩ = some (.string ((rd_T32 l0 x5_1).f8)) ∧ w'.cell? (ad227.add ((x5_1).toNat * 12)) = some (.int .i64 ((rd_T32 l1 x5_1).f0)) ∧ w'.cell? ⟨(ad227.add ((x5_1).toNat * 12)).block, (ad227.add ((x5_1).toNat * 12)).off + 1, none⟩ = some (.int .i64 ((rd_T32 l1 x5_1).f1)) ∧ w'.cell? ⟨(ad227.add ((x5_1).toNat * 12)).block, (ad227.add ((x5_1).toNat * 12)).off + 2, none⟩ = some (.int .i64 ((rd_T32 l1 x5_1).f2)) ∧ w'.cell? ⟨(ad227.add ((x5_1).toNat * 12)).block, (ad227.add ((x5_1).toNat * 12)).off + 3, none⟩ = some (.int .i64 ((rd_T32 l1 x5_1).f3)) ∧ w'.cell? ⟨(ad227.add ((x5_1).toNat * 12)).block, (ad227.add ((x5_1).toNat * 12)).off + 4, none⟩ = some (.int .i64 ((rd_T32 l1 x5_1).f4)) ∧ w'.cell? ⟨(ad227.add ((x5_1).toNat * 12)).block, (ad227.add ((x5_1).toNat * 12)).off + 5, none⟩ = some (.int .i64 ((rd_T32 l1 x5_1).f5)) ∧ w'.cell? ⟨(ad227.add ((x5_1).toNat * 12)).block, (ad227.add ((x5_1).toNat * 12)).off + 6, none⟩ = some (.int .u64 ((rd_T32 l1 x5_1).f6)) ∧ w'.cell? ⟨(ad227.add ((x5_1).toNat * 12)).block, (ad227.add ((x5_1).toNat * 12)).off + 7, none⟩ = some (.int .i64 ((rd_T32 l1 x5_1).f7.f0)) ∧ w'.cell? ⟨(ad227.add ((x5_1).toNat * 12)).block, (ad227.add ((x5_1).toNat * 12)).off + 8, none⟩ = some (.int .i64 ((rd_T32 l1 x5_1).f7.f1)) ∧ w'.cell? ⟨(ad227.add ((x5_1).toNat * 12)).block, (ad227.add ((x5_1).toNat * 12)).off + 9, none⟩ = some (.int .i64 ((rd_T32 l1 x5_1).f7.f2)) ∧ w'.cell? ⟨(ad227.add ((x5_1).toNat * 12)).block, (ad227.add ((x5_1).toNat * 12)).off + 10, none⟩ = some (.slice A227_10 ((rd_T32 l1 x5_1).f7.f3).length c227_10) ∧ w'.cell? ⟨(ad227.add ((x5_1).toNat * 12)).block, (ad227.add ((x5_1).toNat * 12)).off + 11, none⟩ = some (.string ((rd_T32 l1 x5_1).f8))) (ds := []) #[false, false, false, false, false, false, false, false, false, false] (by kernel_rfl) rfl rfl ⟨((HB.out.cell (World.block_lt_of_cell? w _ hw226_0)).trans hw226_0), ((HB.out.cell (World.block_lt_of_cell? w _ hw226_1)).trans hw226_1), ((HB.out.cell (World.block_lt_of_cell? w _ hw226_2)).trans hw226_2), ((HB.out.cell (World.block_lt_of_cell? w _ hw226_3)).trans hw226_3), ((HB.out.cell (World.block_lt_of_cell? w _ hw226_4)).trans hw226_4), ((HB.out.cell (World.block_lt_of_cell? w _ hw226_5)).trans hw226_5), ((HB.out.cell (World.block_lt_of_cell? w _ hw226_6)).trans hw226_6), ((HB.out.cell (World.block_lt_of_cell? w _ hw226_7)).trans hw226_7), ((HB.out.cell (World.block_lt_of_cell? w _ hw226_8)).trans hw226_8), ((HB.out.cell (World.block_lt_of_cell? w _ hw226_9)).trans hw226_9), ((HB.out.cell (World.block_lt_of_cell? w _ hw226_10)).trans hw226_10), ((HB.out.cell (World.block_lt_of_cell? w _ hw226_11)).trans hw226_11), ((HB.out.cell (World.block_lt_of_cell? w _ hw227_0)).trans hw227_0), ((HB.out.cell (World.block_lt_of_cell? w _ hw227_1)).trans hw227_1), ((HB.out.cell (World.block_lt_of_cell? w _ hw227_2)).trans hw227_2), ((HB.out.cell (World.block_lt_of_cell? w _ hw227_3)).trans hw227_3), ((HB.out.cell (World.block_lt_of_cell? w _ hw227_4)).trans hw227_4), ((HB.out.cell (World.block_lt_of_cell? w _ hw227_5)).trans hw227_5), ((HB.out.cell (World.block_lt_of_cell? w _ hw227_6)).trans hw227_6), ((HB.out.cell (World.block_lt_of_cell? w _ hw227_7)).trans hw227_7), ((HB.out.cell (World.block_lt_of_cell? w _ hw227_8)).trans hw227_8), ((HB.out.cell (World.block_lt_of_cell? w _ hw227_9)).trans hw227_9), ((HB.out.cell (World.block_lt_of_cell? w _ hw227_10)).trans hw227_10), ((HB.out.cell (World.block_lt_of_cell? w _ hw227_11)).trans hw227_11)⟩ (fun hHeld => ?_); refine with_tabW skirmishlaw48_same.tab6 skirmishlaw48_same.bits6 (fun HT_ HW_ => ?_)
                generalize wr.drew = w9 at HB HR226_10 HR227_10 hx226_0 hx226_1 hx226_10 hx226_11 hx226_2 hx226_3 hx226_4 hx226_5 hx226_6 hx226_7 hx226_8 hx226_9 hx227_0 hx227_1 hx227_10 hx227_11 hx227_2 hx227_3 hx227_4 hx227_5 hx227_6 hx227_7 hx227_8 hx227_9 hHeld ⊢
                refine pure_ (i := 0) (N := some 17) (v := ?_) (a' := ?_) #[true, false, false, false, false, false, false, false, false, false] rfl rfl (any_of HT_.out (by kernel_rfl)) (fun _ _ _ h => h) (Or.inl ⟨by rfl, ?_⟩) ?_ ?_
                rotate_left
                · intro w'
                  go_simp
                  with_reducible rfl
                rotate_left
                · simp only [Act.put, List.setIfInBounds_toArray, List.set_cons_zero, List.set_cons_succ, i64_w, i32_w]
                  rfl
                refine pure_ (i := 1) (N := some 18) (v := ?_) (a' := ?_) #[true, true, false, false, false, false, false, false, false, false] rfl rfl (any_of HT_.out (by kernel_rfl)) (fun _ _ _ h => h) (Or.inl ⟨by rfl, ?_⟩) ?_ ?_
                rotate_left
                · intro w'
                  go_simp
                  with_reducible rfl
                rotate_left
                · simp only [Act.put, List.setIfInBounds_toArray, List.set_cons_zero, List.set_cons_succ, i64_w, i32_w]
                  rfl
                refine pure_ (i := 2) (N := some 19) (v := ?_) (a' := ?_) #[true, true, true, false, false, false, false, false, false, false] rfl rfl (any_of HT_.out (by kernel_rfl)) (fun _ _ _ h => h) (Or.inl ⟨by rfl, ?_⟩) ?_ ?_
                rotate_left
                · intro w'
                  go_simp
                  with_reducible rfl
                rotate_left
                · simp only [Act.put, List.setIfInBounds_toArray, List.set_cons_zero, List.set_cons_succ, i64_w, i32_w]
                  rfl
                refine pure_ (i := 4) (N := some 21) (v := ?_) (a' := ?_) #[true, true, true, false, true, false, false, false, false, false] rfl rfl (any_of HT_.out (by kernel_rfl)) (fun _ _ _ h => h) (Or.inl ⟨by rfl, ?_⟩) ?_ ?_
                rotate_left
                · intro w'
                  go_simp
                  with_reducible rfl
                rotate_left
                · simp only [Act.put, List.setIfInBounds_toArray, List.set_cons_zero, List.set_cons_succ, i64_w, i32_w]
                  rfl
                refine pure_ (i := 5) (N := some 22) (v := ?_) (a' := ?_) #[true, true, true, false, true, true, false, false, false, false] rfl rfl (any_of HT_.out (by kernel_rfl)) (fun _ _ _ h => h) (Or.inl ⟨by rfl, ?_⟩) ?_ ?_
                rotate_left
                · intro w'
                  go_simp
                  with_reducible rfl
                rotate_left
                · simp only [Act.put, List.setIfInBounds_toArray, List.set_cons_zero, List.set_cons_succ, i64_w, i32_w]
                  rfl
                refine pure_ (i := 6) (N := some 23) (v := ?_) (a' := ?_) #[true, true, true, false, true, true, true, false, false, false] rfl rfl (any_of HT_.out (by kernel_rfl)) (fun _ _ _ h => h) (Or.inl ⟨by rfl, ?_⟩) ?_ ?_
                rotate_left
                · intro w'
                  go_simp
                  with_reducible rfl
                rotate_left
                · simp only [Act.put, List.setIfInBounds_toArray, List.set_cons_zero, List.set_cons_succ, i64_w, i32_w]
                  rfl
                refine take_ (i := 3) (N := some 20) (v := ?_) (a' := ?_) #[true, true, true, true, true, true, true, false, false, false] rfl rfl (take_ofW HT_.out HW_.out (by kernel_rfl)) (fun _ _ _ h => h) (Or.inl ⟨by rfl, ?_⟩) hHeld ?_ ?_
                rotate_left
                · rintro w' ⟨s0, s1, s2, s3, s4, s5, s6, s7, s8, s9, s10, s11, s12, s13, s14, s15, s16, s17, s18, s19, s20, s21, s22, s23⟩
                  go_simp
                  with_reducible rfl
                rotate_left
                · simp only [Act.put, List.setIfInBounds_toArray, List.set_cons_zero, List.set_cons_succ, i64_w, i32_w]
                  rfl
                refine take_ (i := 7) (N := some 24) (v := ?_) (a' := ?_) #[true, true, true, true, true, true, true, true, false, false] rfl rfl (take_ofW HT_.out HW_.out (by kernel_rfl)) (fun _ _ _ h => h) (Or.inl ⟨by rfl, ?_⟩) hHeld ?_ ?_
                rotate_left
                · rintro w' ⟨s0, s1, s2, s3, s4, s5, s6, s7, s8, s9, s10, s11, s12, s13, s14, s15, s16, s17, s18, s19, s20, s21, s22, s23⟩
                  go_simp
                  with_reducible rfl
                rotate_left
                · simp only [Act.put, List.setIfInBounds_toArray, List.set_cons_zero, List.set_cons_succ, i64_w, i32_w]
                  rfl
                refine one_ (i := 8) (N := some 25) #[true, true, true, true, true, true, true, true, true, false] rfl rfl (one_of HT_.out (by kernel_rfl)) (by decide) (fun K hK => ?_)
                refine goes_ Try.func15 (by kernel_rfl) rfl #[.agg #[.int .i64 ((rd_T32 l0 x5_1).f0), .int .i64 ((rd_T32 l0 x5_1).f1), .int .i64 ((rd_T32 l0 x5_1).f2), .int .i64 ((rd_T32 l0 x5_1).f3), .int .i64 ((rd_T32 l0 x5_1).f4), .int .i64 ((rd_T32 l0 x5_1).f5), .int .u64 ((rd_T32 l0 x5_1).f6), .int .i64 ((rd_T32 l0 x5_1).f7.f0), .int .i64 ((rd_T32 l0 x5_1).f7.f1), .int .i64 ((rd_T32 l0 x5_1).f7.f2), .slice A226_10 ((rd_T32 l0 x5_1).f7.f3).length c226_10, .string ((rd_T32 l0 x5_1).f8)], .agg #[.int .i64 ((rd_T32 l1 x5_1).f0), .int .i64 ((rd_T32 l1 x5_1).f1), .int .i64 ((rd_T32 l1 x5_1).f2), .int .i64 ((rd_T32 l1 x5_1).f3), .int .i64 ((rd_T32 l1 x5_1).f4), .int .i64 ((rd_T32 l1 x5_1).f5), .int .u64 ((rd_T32 l1 x5_1).f6), .int .i64 ((rd_T32 l1 x5_1).f7.f0), .int .i64 ((rd_T32 l1 x5_1).f7.f1), .int .i64 ((rd_T32 l1 x5_1).f7.f2), .slice A227_10 ((rd_T32 l1 x5_1).f7.f3).length c227_10, .string ((rd_T32 l1 x5_1).f8)]] (by rfl) rfl rfl (by (try simp only [List.map_toArray, List.map_cons, List.map_nil]); first | done | rfl | (simp only [List.length_drop, List.length_take]; rfl)) ?_
                with_reducible refine (skirmishref47_SamePacket.calls k1 ((rd_T32 l0 x5_1).f0) ((rd_T32 l0 x5_1).f1) ((rd_T32 l0 x5_1).f2) ((rd_T32 l0 x5_1).f3) ((rd_T32 l0 x5_1).f4) ((rd_T32 l0 x5_1).f5) ((rd_T32 l0 x5_1).f6) ((rd_T32 l0 x5_1).f7.f0) ((rd_T32 l0 x5_1).f7.f1) ((rd_T32 l0 x5_1).f7.f2) _ _ ((rd_T32 l0 x5_1).f7.f3) ((rd_T32 l0 x5_1).f8) ((rd_T32 l1 x5_1).f0) ((rd_T32 l1 x5_1).f1) ((rd_T32 l1 x5_1).f2) ((rd_T32 l1 x5_1).f3) ((rd_T32 l1 x5_1).f4) ((rd_T32 l1 x5_1).f5) ((rd_T32 l1 x5_1).f6) ((rd_T32 l1 x5_1).f7.f0) ((rd_T32 l1 x5_1).f7.f1) ((rd_T32 l1 x5_1).f7.f2) _ _ ((rd_T32 l1 x5_1).f7.f3) ((rd_T32 l1 x5_1).f8) true _ ?side1 ?side2 ?side3 ?side4 A7.out).mono ?_
                (case side1 => repeat (first | exact (Kd.C_below HR226_10.out HB.out) | (with_reducible refine Kd.C_alloc ?_ _) | (with_reducible refine Kd.C_drewN ?_ _) | (with_reducible refine Kd.C_drew ?_)))
                (case side2 => exact HC226_10.out)
                (case side3 => repeat (first | exact (Kd.C_below HR227_10.out HB.out) | (with_reducible refine Kd.C_alloc ?_ _) | (with_reducible refine Kd.C_drewN ?_ _) | (with_reducible refine Kd.C_drew ?_)))
                (case side4 => exact HC227_10.out)
                rintro e w10 ⟨rfl, hb⟩
                refine ⟨_, rfl, ?_⟩
                have n0_ := Aside0.mk (below_step (by repeat (first | (with_reducible first | exact HB.out | apply below_alloc | apply pw_below_drewN | apply below_drew1) | exact HB.out)) hb)
                clear HB
                have HB := n0_
                clear n0_
                (try clear hb)
                (try clear hb2)
                (try clear hk)
                (try clear hi)
                refine hK.out _ _ ⟨((HB.out.cell (World.block_lt_of_cell? w _ hw226_0)).trans hw226_0), ((HB.out.cell (World.block_lt_of_cell? w _ hw226_1)).trans hw226_1), ((HB.out.cell (World.block_lt_of_cell? w _ hw226_2)).trans hw226_2), ((HB.out.cell (World.block_lt_of_cell? w _ hw226_3)).trans hw226_3), ((HB.out.cell (World.block_lt_of_cell? w _ hw226_4)).trans hw226_4), ((HB.out.cell (World.block_lt_of_cell? w _ hw226_5)).trans hw226_5), ((HB.out.cell (World.block_lt_of_cell? w _ hw226_6)).trans hw226_6), ((HB.out.cell (World.block_lt_of_cell? w _ hw226_7)).trans hw226_7), ((HB.out.cell (World.block_lt_of_cell? w _ hw226_8)).trans hw226_8), ((HB.out.cell (World.block_lt_of_cell? w _ hw226_9)).trans hw226_9), ((HB.out.cell (World.block_lt_of_cell? w _ hw226_10)).trans hw226_10), ((HB.out.cell (World.block_lt_of_cell? w _ hw226_11)).trans hw226_11), ((HB.out.cell (World.block_lt_of_cell? w _ hw227_0)).trans hw227_0), ((HB.out.cell (World.block_lt_of_cell? w _ hw227_1)).trans hw227_1), ((HB.out.cell (World.block_lt_of_cell? w _ hw227_2)).trans hw227_2), ((HB.out.cell (World.block_lt_of_cell? w _ hw227_3)).trans hw227_3), ((HB.out.cell (World.block_lt_of_cell? w _ hw227_4)).trans hw227_4), ((HB.out.cell (World.block_lt_of_cell? w _ hw227_5)).trans hw227_5), ((HB.out.cell (World.block_lt_of_cell? w _ hw227_6)).trans hw227_6), ((HB.out.cell (World.block_lt_of_cell? w _ hw227_7)).trans hw227_7), ((HB.out.cell (World.block_lt_of_cell? w _ hw227_8)).trans hw227_8), ((HB.out.cell (World.block_lt_of_cell? w _ hw227_9)).trans hw227_9), ((HB.out.cell (World.block_lt_of_cell? w _ hw227_10)).trans hw227_10), ((HB.out.cell (World.block_lt_of_cell? w _ hw227_11)).trans hw227_11)⟩ (fun hHeld => ?_)
                clear hK K
                refine norm_ (a' := ?_) ?_ ?_
                rotate_left
                · show Act.put _ (some 25) _ = _
                  simp only [Act.put, List.setIfInBounds_toArray, List.set_cons_zero, List.set_cons_succ, i64_w, i32_w]
                  rfl
                refine pure_ (i := 9) (N := some 26) (v := ?_) (a' := ?_) #[true, true, true, true, true, true, true, true, true, true] rfl rfl (any_of HT_.out (by kernel_rfl)) (fun _ _ _ h => h) (Or.inl ⟨by rfl, ?_⟩) ?_ ?_
                rotate_left
                · intro w'
                  go_simp
                  with_reducible rfl
                rotate_left
                · simp only [Act.put, List.setIfInBounds_toArray, List.set_cons_zero, List.set_cons_succ, i64_w, i32_w]
                  rfl
                refine done_ (done_of HT_.out (by kernel_rfl)) ?_
                try go_wp2
                go_roundg k1
                case measure => have := HK1.out; omega
                case rel => exact ⟨(wrap64 (x5_1 + 1)), (by first | rfl | (simp; done) | (simp [*]; done)), H', ⟨by have := HK1.out; omega⟩, ⟨by repeat (first | (with_reducible first | exact HB.out | apply below_alloc | apply pw_below_drewN | apply below_drew1) | exact HB.out)⟩⟩
              · replace c8 := Bool.eq_false_iff.mpr c8
                subst c8
                have H1 : (some false) = some r := by rw [if_neg (show ¬ (false = true) by decide)] at H; exact H
                clear H
                have H := H1
                clear H1
                obtain rfl := Option.some.inj H
                try go_wp2
                have n0_ := Aside0.mk (below_drew1 HB.out)
                clear HB
                have HB := n0_
                clear n0_
                have p226 : 0 ≤ (x5_1 : Int) := of_decide_eq_true (by first | (with_reducible assumption) | assumption)
                have q226 : x5_1 < (l0.length : Int) := of_decide_eq_true (by first | (with_reducible assumption) | assumption)
                obtain ⟨ad226, A226_10, c226_10, e226, hx226_0, hx226_1, hx226_2, hx226_3, hx226_4, hx226_5, hx226_6, hx226_7, hx226_8, hx226_9, hx226_10, hx226_11, hl226_10, hi226_10⟩ := at_T32 HR0.out x5_1 p226 q226
                have hw226_11 := hx226_11
                have hw226_10 := hx226_10
                have hw226_9 := hx226_9
                have hw226_8 := hx226_8
                have hw226_7 := hx226_7
                have hw226_6 := hx226_6
                have hw226_5 := hx226_5
                have hw226_4 := hx226_4
                have hw226_3 := hx226_3
                have hw226_2 := hx226_2
                have hw226_1 := hx226_1
                have hw226_0 := hx226_0
                cases e226
                replace hx226_0 := (HB.out.cell (World.block_lt_of_cell? w _ hx226_0)).trans hx226_0
                replace hx226_1 := (HB.out.cell (World.block_lt_of_cell? w _ hx226_1)).trans hx226_1
                replace hx226_2 := (HB.out.cell (World.block_lt_of_cell? w _ hx226_2)).trans hx226_2
                replace hx226_3 := (HB.out.cell (World.block_lt_of_cell? w _ hx226_3)).trans hx226_3
                replace hx226_4 := (HB.out.cell (World.block_lt_of_cell? w _ hx226_4)).trans hx226_4
                replace hx226_5 := (HB.out.cell (World.block_lt_of_cell? w _ hx226_5)).trans hx226_5
                replace hx226_6 := (HB.out.cell (World.block_lt_of_cell? w _ hx226_6)).trans hx226_6
                replace hx226_7 := (HB.out.cell (World.block_lt_of_cell? w _ hx226_7)).trans hx226_7
                replace hx226_8 := (HB.out.cell (World.block_lt_of_cell? w _ hx226_8)).trans hx226_8
                replace hx226_9 := (HB.out.cell (World.block_lt_of_cell? w _ hx226_9)).trans hx226_9
                replace hx226_10 := (HB.out.cell (World.block_lt_of_cell? w _ hx226_10)).trans hx226_10
                replace hx226_11 := (HB.out.cell (World.block_lt_of_cell? w _ hx226_11)).trans hx226_11
                have HR226_10 := Aside0.mk hi226_10
                have HC226_10 := Aside0.mk hl226_10
                clear hi226_10 hl226_10
                replace p226 := eq_true p226
                replace q226 := eq_true q226
                have p227 : 0 ≤ (x5_1 : Int) := of_decide_eq_true (by first | (with_reducible assumption) | assumption)
                have q227 : x5_1 < (l1.length : Int) := of_decide_eq_true (by first | (with_reducible assumption) | assumption)
                obtain ⟨ad227, A227_10, c227_10, e227, hx227_0, hx227_1, hx227_2, hx227_3, hx227_4, hx227_5, hx227_6, hx227_7, hx227_8, hx227_9, hx227_10, hx227_11, hl227_10, hi227_10⟩ := at_T32 HR1.out x5_1 p227 q227
                have hw227_11 := hx227_11
                have hw227_10 := hx227_10
                have hw227_9 := hx227_9
                have hw227_8 := hx227_8
                have hw227_7 := hx227_7
                have hw227_6 := hx227_6
                have hw227_5 := hx227_5
                have hw227_4 := hx227_4
                have hw227_3 := hx227_3
                have hw227_2 := hx227_2
                have hw227_1 := hx227_1
                have hw227_0 := hx227_0
                cases e227
                replace hx227_0 := (HB.out.cell (World.block_lt_of_cell? w _ hx227_0)).trans hx227_0
                replace hx227_1 := (HB.out.cell (World.block_lt_of_cell? w _ hx227_1)).trans hx227_1
                replace hx227_2 := (HB.out.cell (World.block_lt_of_cell? w _ hx227_2)).trans hx227_2
                replace hx227_3 := (HB.out.cell (World.block_lt_of_cell? w _ hx227_3)).trans hx227_3
                replace hx227_4 := (HB.out.cell (World.block_lt_of_cell? w _ hx227_4)).trans hx227_4
                replace hx227_5 := (HB.out.cell (World.block_lt_of_cell? w _ hx227_5)).trans hx227_5
                replace hx227_6 := (HB.out.cell (World.block_lt_of_cell? w _ hx227_6)).trans hx227_6
                replace hx227_7 := (HB.out.cell (World.block_lt_of_cell? w _ hx227_7)).trans hx227_7
                replace hx227_8 := (HB.out.cell (World.block_lt_of_cell? w _ hx227_8)).trans hx227_8
                replace hx227_9 := (HB.out.cell (World.block_lt_of_cell? w _ hx227_9)).trans hx227_9
                replace hx227_10 := (HB.out.cell (World.block_lt_of_cell? w _ hx227_10)).trans hx227_10
                replace hx227_11 := (HB.out.cell (World.block_lt_of_cell? w _ hx227_11)).trans hx227_11
                have HR227_10 := Aside0.mk hi227_10
                have HC227_10 := Aside0.mk hl227_10
                clear hi227_10 hl227_10
                replace p227 := eq_true p227
                replace q227 := eq_true q227
                refine start_ (n := 10) (S := fun w' => w'.cell? (ad226.add ((x5_1).toNat * 12)) = some (.int .i64 ((rd_T32 l0 x5_1).f0)) ∧ w'.cell? ⟨(ad226.add ((x5_1).toNat * 12)).block, (ad226.add ((x5_1).toNat * 12)).off + 1, none⟩ = some (.int .i64 ((rd_T32 l0 x5_1).f1)) ∧ w'.cell? ⟨(ad226.add ((x5_1).toNat * 12)).block, (ad226.add ((x5_1).toNat * 12)).off + 2, none⟩ = some (.int .i64 ((rd_T32 l0 x5_1).f2)) ∧ w'.cell? ⟨(ad226.add ((x5_1).toNat * 12)).block, (ad226.add ((x5_1).toNat * 12)).off + 3, none⟩ = some (.int .i64 ((rd_T32 l0 x5_1).f3)) ∧ w'.cell? ⟨(ad226.add ((x5_1).toNat * 12)).block, (ad226.add ((x5_1).toNat * 12)).off + 4, none⟩ = some (.int .i64 ((rd_T32 l0 x5_1).f4)) ∧ w'.cell? ⟨(ad226.add ((x5_1).toNat * 12)).block, (ad226.add ((x5_1).toNat * 12)).off + 5, none⟩ = some (.int .i64 ((rd_T32 l0 x5_1).f5)) ∧ w'.cell? ⟨(ad226.add ((x5_1).toNat * 12)).block, (ad226.add ((x5_1).toNat * 12)).off + 6, none⟩ = some (.int .u64 ((rd_T32 l0 x5_1).f6)) ∧ w'.cell? ⟨(ad226.add ((x5_1).toNat * 12)).block, (ad226.add ((x5_1).toNat * 12)).off + 7, none⟩ = some (.int .i64 ((rd_T32 l0 x5_1).f7.f0)) ∧ w'.cell? ⟨(ad226.add ((x5_1).toNat * 12)).block, (ad226.add ((x5_1).toNat * 12)).off + 8, none⟩ = some (.int .i64 ((rd_T32 l0 x5_1).f7.f1)) ∧ w'.cell? ⟨(ad226.add ((x5_1).toNat * 12)).block, (ad226.add ((x5_1).toNat * 12)).off + 9, none⟩ = some (.int .i64 ((rd_T32 l0 x5_1).f7.f2)) ∧ w'.cell? ⟨(ad226.add ((x5_1).toNat * 12)).block, (ad226.add ((x5_1).toNat * 12)).off + 10, none⟩ = some (.slice A226_10 ((rd_T32 l0 x5_1).f7.f3).length c226_10) ∧ w'.cell? ⟨(ad226.add ((x5_1).toNat * 12)).block, (ad226.add ((x5_1).toNat * 12)).off + 11, none⟩ = some (.string ((rd_T32 l0 x5_1).f8)) ∧ w'.cell? (ad227.add ((x5_1).toNat * 12)) = some (.int .i64 ((rd_T32 l1 x5_1).f0)) ∧ w'.cell? ⟨(ad227.add ((x5_1).toNat * 12)).block, (ad227.add ((x5_1).toNat * 12)).off + 1, none⟩ = some (.int .i64 ((rd_T32 l1 x5_1).f1)) ∧ w'.cell? ⟨(ad227.add ((x5_1).toNat * 12)).block, (ad227.add ((x5_1).toNat * 12)).off + 2, none⟩ = some (.int .i64 ((rd_T32 l1 x5_1).f2)) ∧ w'.cell? ⟨(ad227.add ((x5_1).toNat * 12)).block, (ad227.add ((x5_1).toNat * 12)).off + 3, none⟩ = some (.int .i64 ((rd_T32 l1 x5_1).f3)) ∧ w'.cell? ⟨(ad227.add ((x5_1).toNat * 12)).block, (ad227.add ((x5_1).toNat * 12)).off + 4, none⟩ = some (.int .i64 ((rd_T32 l1 x5_1).f4)) ∧ w'.cell? ⟨(ad227.add ((x5_1).toNat * 12)).block, (ad227.add ((x5_1).toNat * 12)).off + 5, none⟩ = some (.int .i64 ((rd_T32 l1 x5_1).f5)) ∧ w'.cell? ⟨(ad227.add ((x5_1).toNat * 12)).block, (ad227.add ((x5_1).toNat * 12)).off + 6, none⟩ = some (.int .u64 ((rd_T32 l1 x5_1).f6)) ∧ w'.cell? ⟨(ad227.add ((x5_1).toNat * 12)).block, (ad227.add ((x5_1).toNat * 12)).off + 7, none⟩ = some (.int .i64 ((rd_T32 l1 x5_1).f7.f0)) ∧ w'.cell? ⟨(ad227.add ((x5_1).toNat * 12)).block, (ad227.add ((x5_1).toNat * 12)).off + 8, none⟩ = some (.int .i64 ((rd_T32 l1 x5_1).f7.f1)) ∧ w'.cell? ⟨(ad227.add ((x5_1).toNat * 12)).block, (ad227.add ((x5_1).toNat * 12)).off + 9, none⟩ = some (.int .i64 ((rd_T32 l1 x5_1).f7.f2)) ∧ w'.cell? ⟨(ad227.add ((x5_1).toNat * 12)).block, (ad227.add ((x5_1).toNat * 12)).off + 10, none⟩ = some (.slice A227_10 ((rd_T32 l1 x5_1).f7.f3).length c227_10) ∧ w'.cell? ⟨(ad227.add ((x5_1).toNat * 12)).block, (ad227.add ((x5_1).toNat * 12)).off + 11, none⟩ = some (.string ((rd_T32 l1 x5_1).f8))) (ds := []) #[false, false, false, false, false, false, false, false, false, false] (by kernel_rfl) rfl rfl ⟨((HB.out.cell (World.block_lt_of_cell? w _ hw226_0)).trans hw226_0), ((HB.out.cell (World.block_lt_of_cell? w _ hw226_1)).trans hw226_1), ((HB.out.cell (World.block_lt_of_cell? w _ hw226_2)).trans hw226_2), ((HB.out.cell (World.block_lt_of_cell? w _ hw226_3)).trans hw226_3), ((HB.out.cell (World.block_lt_of_cell? w _ hw226_4)).trans hw226_4), ((HB.out.cell (World.block_lt_of_cell? w _ hw226_5)).trans hw226_5), ((HB.out.cell (World.block_lt_of_cell? w _ hw226_6)).trans hw226_6), ((HB.out.cell (World.block_lt_of_cell? w _ hw226_7)).trans hw226_7), ((HB.out.cell (World.block_lt_of_cell? w _ hw226_8)).trans hw226_8), ((HB.out.cell (World.block_lt_of_cell? w _ hw226_9)).trans hw226_9), ((HB.out.cell (World.block_lt_of_cell? w _ hw226_10)).trans hw226_10), ((HB.out.cell (World.block_lt_of_cell? w _ hw226_11)).trans hw226_11), ((HB.out.cell (World.block_lt_of_cell? w _ hw227_0)).trans hw227_0), ((HB.out.cell (World.block_lt_of_cell? w _ hw227_1)).trans hw227_1), ((HB.out.cell (World.block_lt_of_cell? w _ hw227_2)).trans hw227_2), ((HB.out.cell (World.block_lt_of_cell? w _ hw227_3)).trans hw227_3), ((HB.out.cell (World.block_lt_of_cell? w _ hw227_4)).trans hw227_4), ((HB.out.cell (World.block_lt_of_cell? w _ hw227_5)).trans hw227_5), ((HB.out.cell (World.block_lt_of_cell? w _ hw227_6)).trans hw227_6), ((HB.out.cell (World.block_lt_of_cell? w _ hw227_7)).trans hw227_7), ((HB.out.cell (World.block_lt_of_cell? w _ hw227_8)).trans hw227_8), ((HB.out.cell (World.block_lt_of_cell? w _ hw227_9)).trans hw227_9), ((HB.out.cell (World.block_lt_of_cell? w _ hw227_10)).trans hw227_10), ((HB.out.cell (World.block_lt_of_cell? w _ hw227_11)).trans hw227_11)⟩ (fun hHeld => ?_); refine with_tabW skirmishlaw48_same.tab6 skirmishlaw48_same.bits6 (fun HT_ HW_ => ?_)
                generalize wr.drew = w11 at HB HR226_10 HR227_10 hx226_0 hx226_1 hx226_10 hx226_11 hx226_2 hx226_3 hx226_4 hx226_5 hx226_6 hx226_7 hx226_8 hx226_9 hx227_0 hx227_1 hx227_10 hx227_11 hx227_2 hx227_3 hx227_4 hx227_5 hx227_6 hx227_7 hx227_8 hx227_9 hHeld ⊢
                refine pure_ (i := 0) (N := some 17) (v := ?_) (a' := ?_) #[true, false, false, false, false, false, false, false, false, false] rfl rfl (any_of HT_.out (by kernel_rfl)) (fun _ _ _ h => h) (Or.inl ⟨by rfl, ?_⟩) ?_ ?_
                rotate_left
                · intro w'
                  go_simp
                  with_reducible rfl
                rotate_left
                · simp only [Act.put, List.setIfInBounds_toArray, List.set_cons_zero, List.set_cons_succ, i64_w, i32_w]
                  rfl
                refine pure_ (i := 1) (N := some 18) (v := ?_) (a' := ?_) #[true, true, false, false, false, false, false, false, false, false] rfl rfl (any_of HT_.out (by kernel_rfl)) (fun _ _ _ h => h) (Or.inl ⟨by rfl, ?_⟩) ?_ ?_
                rotate_left
                · intro w'
                  go_simp
                  with_reducible rfl
                rotate_left
                · simp only [Act.put, List.setIfInBounds_toArray, List.set_cons_zero, List.set_cons_succ, i64_w, i32_w]
                  rfl
                refine pure_ (i := 2) (N := some 19) (v := ?_) (a' := ?_) #[true, true, true, false, false, false, false, false, false, false] rfl rfl (any_of HT_.out (by kernel_rfl)) (fun _ _ _ h => h) (Or.inl ⟨by rfl, ?_⟩) ?_ ?_
                rotate_left
                · intro w'
                  go_simp
                  with_reducible rfl
                rotate_left
                · simp only [Act.put, List.setIfInBounds_toArray, List.set_cons_zero, List.set_cons_succ, i64_w, i32_w]
                  rfl
                refine pure_ (i := 4) (N := some 21) (v := ?_) (a' := ?_) #[true, true, true, false, true, false, false, false, false, false] rfl rfl (any_of HT_.out (by kernel_rfl)) (fun _ _ _ h => h) (Or.inl ⟨by rfl, ?_⟩) ?_ ?_
                rotate_left
                · intro w'
                  go_simp
                  with_reducible rfl
                rotate_left
                · simp only [Act.put, List.setIfInBounds_toArray, List.set_cons_zero, List.set_cons_succ, i64_w, i32_w]
                  rfl
                refine pure_ (i := 5) (N := some 22) (v := ?_) (a' := ?_) #[true, true, true, false, true, true, false, false, false, false] rfl rfl (any_of HT_.out (by kernel_rfl)) (fun _ _ _ h => h) (Or.inl ⟨by rfl, ?_⟩) ?_ ?_
                rotate_left
                · intro w'
                  go_simp
                  with_reducible rfl
                rotate_left
                · simp only [Act.put, List.setIfInBounds_toArray, List.set_cons_zero, List.set_cons_succ, i64_w, i32_w]
                  rfl
                refine pure_ (i := 6) (N := some 23) (v := ?_) (a' := ?_) #[true, true, true, false, true, true, true, false, false, false] rfl rfl (any_of HT_.out (by kernel_rfl)) (fun _ _ _ h => h) (Or.inl ⟨by rfl, ?_⟩) ?_ ?_
                rotate_left
                · intro w'
                  go_simp
                  with_reducible rfl
                rotate_left
                · simp only [Act.put, List.setIfInBounds_toArray, List.set_cons_zero, List.set_cons_succ, i64_w, i32_w]
                  rfl
                refine take_ (i := 3) (N := some 20) (v := ?_) (a' := ?_) #[true, true, true, true, true, true, true, false, false, false] rfl rfl (take_ofW HT_.out HW_.out (by kernel_rfl)) (fun _ _ _ h => h) (Or.inl ⟨by rfl, ?_⟩) hHeld ?_ ?_
                rotate_left
                · rintro w' ⟨s0, s1, s2, s3, s4, s5, s6, s7, s8, s9, s10, s11, s12, s13, s14, s15, s16, s17, s18, s19, s20, s21, s22, s23⟩
                  go_simp
                  with_reducible rfl
                rotate_left
                · simp only [Act.put, List.setIfInBounds_toArray, List.set_cons_zero, List.set_cons_succ, i64_w, i32_w]
                  rfl
                refine take_ (i := 7) (N := some 24) (v := ?_) (a' := ?_) #[true, true, true, true, true, true, true, true, false, false] rfl rfl (take_ofW HT_.out HW_.out (by kernel_rfl)) (fun _ _ _ h => h) (Or.inl ⟨by rfl, ?_⟩) hHeld ?_ ?_
                rotate_left
                · rintro w' ⟨s0, s1, s2, s3, s4, s5, s6, s7, s8, s9, s10, s11, s12, s13, s14, s15, s16, s17, s18, s19, s20, s21, s22, s23⟩
                  go_simp
                  with_reducible rfl
                rotate_left
                · simp only [Act.put, List.setIfInBounds_toArray, List.set_cons_zero, List.set_cons_succ, i64_w, i32_w]
                  rfl
                refine one_ (i := 8) (N := some 25) #[true, true, true, true, true, true, true, true, true, false] rfl rfl (one_of HT_.out (by kernel_rfl)) (by decide) (fun K hK => ?_)
                refine goes_ Try.func15 (by kernel_rfl) rfl #[.agg #[.int .i64 ((rd_T32 l0 x5_1).f0), .int .i64 ((rd_T32 l0 x5_1).f1), .int .i64 ((rd_T32 l0 x5_1).f2), .int .i64 ((rd_T32 l0 x5_1).f3), .int .i64 ((rd_T32 l0 x5_1).f4), .int .i64 ((rd_T32 l0 x5_1).f5), .int .u64 ((rd_T32 l0 x5_1).f6), .int .i64 ((rd_T32 l0 x5_1).f7.f0), .int .i64 ((rd_T32 l0 x5_1).f7.f1), .int .i64 ((rd_T32 l0 x5_1).f7.f2), .slice A226_10 ((rd_T32 l0 x5_1).f7.f3).length c226_10, .string ((rd_T32 l0 x5_1).f8)], .agg #[.int .i64 ((rd_T32 l1 x5_1).f0), .int .i64 ((rd_T32 l1 x5_1).f1), .int .i64 ((rd_T32 l1 x5_1).f2), .int .i64 ((rd_T32 l1 x5_1).f3), .int .i64 ((rd_T32 l1 x5_1).f4), .int .i64 ((rd_T32 l1 x5_1).f5), .int .u64 ((rd_T32 l1 x5_1).f6), .int .i64 ((rd_T32 l1 x5_1).f7.f0), .int .i64 ((rd_T32 l1 x5_1).f7.f1), .int .i64 ((rd_T32 l1 x5_1).f7.f2), .slice A227_10 ((rd_T32 l1 x5_1).f7.f3).length c227_10, .string ((rd_T32 l1 x5_1).f8)]] (by rfl) rfl rfl (by (try simp only [List.map_toArray, List.map_cons, List.map_nil]); first | done | rfl | (simp only [List.length_drop, List.length_take]; rfl)) ?_
                with_reducible refine (skirmishref47_SamePacket.calls k1 ((rd_T32 l0 x5_1).f0) ((rd_T32 l0 x5_1).f1) ((rd_T32 l0 x5_1).f2) ((rd_T32 l0 x5_1).f3) ((rd_T32 l0 x5_1).f4) ((rd_T32 l0 x5_1).f5) ((rd_T32 l0 x5_1).f6) ((rd_T32 l0 x5_1).f7.f0) ((rd_T32 l0 x5_1).f7.f1) ((rd_T32 l0 x5_1).f7.f2) _ _ ((rd_T32 l0 x5_1).f7.f3) ((rd_T32 l0 x5_1).f8) ((rd_T32 l1 x5_1).f0) ((rd_T32 l1 x5_1).f1) ((rd_T32 l1 x5_1).f2) ((rd_T32 l1 x5_1).f3) ((rd_T32 l1 x5_1).f4) ((rd_T32 l1 x5_1).f5) ((rd_T32 l1 x5_1).f6) ((rd_T32 l1 x5_1).f7.f0) ((rd_T32 l1 x5_1).f7.f1) ((rd_T32 l1 x5_1).f7.f2) _ _ ((rd_T32 l1 x5_1).f7.f3) ((rd_T32 l1 x5_1).f8) false _ ?side1 ?side2 ?side3 ?side4 A7.out).mono ?_
                (case side1 => repeat (first | exact (Kd.C_below HR226_10.out HB.out) | (with_reducible refine Kd.C_alloc ?_ _) | (with_reducible refine Kd.C_drewN ?_ _) | (with_reducible refine Kd.C_drew ?_)))
                (case side2 => exact HC226_10.out)
                (case side3 => repeat (first | exact (Kd.C_below HR227_10.out HB.out) | (with_reducible refine Kd.C_alloc ?_ _) | (with_reducible refine Kd.C_drewN ?_ _) | (with_reducible refine Kd.C_drew ?_)))
                (case side4 => exact HC227_10.out)
                rintro e w12 ⟨rfl, hb⟩
                refine ⟨_, rfl, ?_⟩
                have n0_ := Aside0.mk (below_step (by repeat (first | (with_reducible first | exact HB.out | apply below_alloc | apply pw_below_drewN | apply below_drew1) | exact HB.out)) hb)
                clear HB
                have HB := n0_
                clear n0_
                (try clear hb)
                (try clear hb2)
                (try clear hk)
                (try clear hi)
                refine hK.out _ _ ⟨((HB.out.cell (World.block_lt_of_cell? w _ hw226_0)).trans hw226_0), ((HB.out.cell (World.block_lt_of_cell? w _ hw226_1)).trans hw226_1), ((HB.out.cell (World.block_lt_of_cell? w _ hw226_2)).trans hw226_2), ((HB.out.cell (World.block_lt_of_cell? w _ hw226_3)).trans hw226_3), ((HB.out.cell (World.block_lt_of_cell? w _ hw226_4)).trans hw226_4), ((HB.out.cell (World.block_lt_of_cell? w _ hw226_5)).trans hw226_5), ((HB.out.cell (World.block_lt_of_cell? w _ hw226_6)).trans hw226_6), ((HB.out.cell (World.block_lt_of_cell? w _ hw226_7)).trans hw226_7), ((HB.out.cell (World.block_lt_of_cell? w _ hw226_8)).trans hw226_8), ((HB.out.cell (World.block_lt_of_cell? w _ hw226_9)).trans hw226_9), ((HB.out.cell (World.block_lt_of_cell? w _ hw226_10)).trans hw226_10), ((HB.out.cell (World.block_lt_of_cell? w _ hw226_11)).trans hw226_11), ((HB.out.cell (World.block_lt_of_cell? w _ hw227_0)).trans hw227_0), ((HB.out.cell (World.block_lt_of_cell? w _ hw227_1)).trans hw227_1), ((HB.out.cell (World.block_lt_of_cell? w _ hw227_2)).trans hw227_2), ((HB.out.cell (World.block_lt_of_cell? w _ hw227_3)).trans hw227_3), ((HB.out.cell (World.block_lt_of_cell? w _ hw227_4)).trans hw227_4), ((HB.out.cell (World.block_lt_of_cell? w _ hw227_5)).trans hw227_5), ((HB.out.cell (World.block_lt_of_cell? w _ hw227_6)).trans hw227_6), ((HB.out.cell (World.block_lt_of_cell? w _ hw227_7)).trans hw227_7), ((HB.out.cell (World.block_lt_of_cell? w _ hw227_8)).trans hw227_8), ((HB.out.cell (World.block_lt_of_cell? w _ hw227_9)).trans hw227_9), ((HB.out.cell (World.block_lt_of_cell? w _ hw227_10)).trans hw227_10), ((HB.out.cell (World.block_lt_of_cell? w _ hw227_11)).trans hw227_11)⟩ (fun hHeld => ?_)
                clear hK K
                refine norm_ (a' := ?_) ?_ ?_
                rotate_left
                · show Act.put _ (some 25) _ = _
                  simp only [Act.put, List.setIfInBounds_toArray, List.set_cons_zero, List.set_cons_succ, i64_w, i32_w]
                  rfl
                refine pure_ (i := 9) (N := some 26) (v := ?_) (a' := ?_) #[true, true, true, true, true, true, true, true, true, true] rfl rfl (any_of HT_.out (by kernel_rfl)) (fun _ _ _ h => h) (Or.inl ⟨by rfl, ?_⟩) ?_ ?_
                rotate_left
                · intro w'
                  go_simp
                  with_reducible rfl
                rotate_left
                · simp only [Act.put, List.setIfInBounds_toArray, List.set_cons_zero, List.set_cons_succ, i64_w, i32_w]
                  rfl
                refine done_ (done_of HT_.out (by kernel_rfl)) ?_
                try go_wp2
                go_ret
                exact ⟨by first | rfl | (simp [errW_none, errW_some] <;> rfl) | (simp [*, errW_none, errW_some] <;> rfl), by repeat (first | (with_reducible first | exact HB.out | apply below_alloc | apply pw_below_drewN | apply below_drew1) | exact HB.out)⟩
            · rw [if_neg c6] at H
              exact absurd H (by simp)
          · rw [if_neg c5] at H
            exact absurd H (by simp)
        · rw [if_neg c4] at H
          have c4b0 : decide (x5_1 < (l0.length : Int)) = false := decide_eq_false c4
          clear c4
          obtain rfl := Option.some.inj H
          go_wp2
          go_ret
          exact ⟨by first | rfl | (simp [errW_none, errW_some] <;> rfl) | (simp [*, errW_none, errW_some] <;> rfl), by repeat (first | (with_reducible first | exact HB.out | apply below_alloc | apply pw_below_drewN | apply below_drew1) | exact HB.out)⟩
  · rw [if_neg c3] at H
    have c3b0 : ((l0.length : Int) == (l1.length : Int)) = false := beq_eq_false_iff_ne.mpr c3
    have c3b1 : ((l0.length : Int) != (l1.length : Int)) = true := bne_iff_ne.mpr c3
    have c3b2 : (l0.length == l1.length) = false := by first | simpa using c3 | (simp at c3 ⊢; omega)
    obtain rfl := Option.some.inj H
    go_enter Try.func9, Try.ntmps9
    go_wp2
    go_ret
    exact ⟨by first | rfl | (simp [errW_none, errW_some] <;> rfl) | (simp [*, errW_none, errW_some] <;> rfl), by repeat (first | (with_reducible first | exact HB.out | apply below_alloc | apply pw_below_drewN | apply below_drew1) | exact HB.out)⟩

/-! ### skirmishref48_Push: function 11 -/
def skirmishref48_Push.l0 : Nat → List (S32) → List (S32) → Int → Option ((List (S32)))
  | 0, _, _, _ => none
  | k + 1, x1, x5, x6 => if x6 < (x1.length : Int) then (if (x5.length : Int) < 256 then (if 0 ≤ x6 then (if x5.length < 1172812402961 then (skirmishref48_Push.l0 k x1 (x5 ++ [(⟨(rd_T32 x1 x6).f0, (rd_T32 x1 x6).f1, (rd_T32 x1 x6).f2, (rd_T32 x1 x6).f3, (rd_T32 x1 x6).f4, (rd_T32 x1 x6).f5, (rd_T32 x1 x6).f6, (⟨(rd_T32 x1 x6).f7.f0, (rd_T32 x1 x6).f7.f1, (rd_T32 x1 x6).f7.f2, (rd_T32 x1 x6).f7.f3⟩ : S30), (rd_T32 x1 x6).f8⟩ : S32)]) (wrap64 (x6 + 1))) else (none)) else (none)) else (skirmishref48_Push.l0 k x1 x5 (wrap64 (x6 + 1)))) else (some x5)
def skirmishref48_Push.f (k : Nat) (l0 : List (S32)) (l1 : List (S32)) : Option ((List (S32))) := (some (([] : List (S32)) : List (S32))).bind fun y229 => (if y229.length + l0.length < 1172812402961 then (skirmishref48_Push.l0 k l1 (y229 ++ l0) 0) else (none))
theorem skirmishref48_Push.mono_l : ∀ k, (∀ y0 y1 y2, LeO (skirmishref48_Push.l0 k y0 y1 y2) (skirmishref48_Push.l0 (k + 1) y0 y1 y2))
  | 0 => fun _ _ _ r h => by simp [skirmishref48_Push.l0] at h
  | k + 1 => by
    have ih0 := skirmishref48_Push.mono_l k
    · intro y0 y1 y2
      unfold skirmishref48_Push.l0
      repeat' first
      | (with_reducible exact ih0 _ _ _)
      | (with_reducible exact LeO.refl _)
      | (with_reducible exact LeO.none _)
      | (with_reducible refine LeO.ite ?_ ?_)
      | (with_reducible refine LeO.bind ?_ (fun _ => ?_))
      | exact ih0 _ _ _
      | exact LeO.none _
      | refine LeO.ite ?_ ?_
      | refine LeO.bind ?_ (fun _ => ?_)
theorem skirmishref48_Push.mono : ∀ a0 a1 k, LeO (skirmishref48_Push.f k a0 a1) (skirmishref48_Push.f (k + 1) a0 a1) := by
  intro a0 a1 k
  have ih0 := skirmishref48_Push.mono_l k
  unfold skirmishref48_Push.f
  repeat' first
      | (with_reducible exact ih0 _ _ _)
      | (with_reducible exact LeO.refl _)
      | (with_reducible exact LeO.none _)
      | (with_reducible refine LeO.ite ?_ ?_)
      | (with_reducible refine LeO.bind ?_ (fun _ => ?_))
      | exact ih0 _ _ _
      | exact LeO.none _
      | refine LeO.ite ?_ ?_
      | refine LeO.bind ?_ (fun _ => ?_)
set_option maxHeartbeats 8000000 in
set_option maxRecDepth 100000 in
theorem skirmishref48_Push.calls (k : Nat) (P0_ : Nat → Prop) (A0 : Option Addr) (c0 : Nat) (l0 : List (S32)) (P1_ : Nat → Prop) (A1 : Option Addr) (c1 : Nat) (l1 : List (S32)) (r : List (S32)) (w : World) (hs0 : Kd.V k32 32 w w.heap.size (fun k_ => P0_ k_) (.slice A0 l0.length c0) l0) (hs1 : Kd.V k32 32 w w.heap.size (fun k_ => P1_ k_) (.slice A1 l1.length c1) l1) (h : skirmishref48_Push.f k l0 l1 = some r) :
    Calls Try.prog 11 #[.slice A0 l0.length c0, .slice A1 l1.length c1] w fun e w' => ∃ v0_ : Value, e = .returned (v0_) ∧ Kd.N k32 32 w' w.heap.size (fun k_ => ((P0_ k_ ∨ P1_ k_) ∨ w.heap.size ≤ k_)) v0_ r ∧ Below w.heap.size w w' := by
  have hu32 := Try.underlying32
  have HO0 := Aside0.mk (show Kd.V k32 32 w w.heap.size (fun k_ => ((P0_ k_ ∨ P1_ k_) ∨ w.heap.size ≤ k_)) (.slice A0 l0.length c0) l0 from Kd.V_mono hs0 (fun k_ hk => .inl (.inl hk)))
  have HO1 := Aside0.mk (show Kd.V k32 32 w w.heap.size (fun k_ => ((P0_ k_ ∨ P1_ k_) ∨ w.heap.size ≤ k_)) (.slice A1 l1.length c1) l1 from Kd.V_mono hs1 (fun k_ hk => .inl (.inr hk)))
  have HB := Aside0.mk (Below.refl w.heap.size w)
  have H : ((some (([] : List (S32)) : List (S32))).bind fun y229 => (if y229.length + l0.length < 1172812402961 then (skirmishref48_Push.l0 k l1 (y229 ++ l0) 0) else (none))) = some r := h
  clear h
  obtain ⟨y229, hy229⟩ : ∃ y_ : List (S32), y_ = (([] : List (S32))) := ⟨_, rfl⟩
  replace H : (if y229.length + l0.length < 1172812402961 then (skirmishref48_Push.l0 k l1 (y229 ++ l0) 0) else (none)) = some r := by first | (rw [hy229]; with_reducible exact H) | (have H2_ := (Option.bind_some _ _).symm.trans H; rw [hy229]; with_reducible exact H2_) | (have H2_ := (Option.bind_some _ _).symm.trans H; with_reducible exact H2_) | with_reducible exact H | (rw [hy229]; exact H) | exact H
  have Ny229 := Aside0.mk hy229
  clear hy229
  by_cases c3 : y229.length + l0.length < 1172812402961
  · rw [if_pos c3] at H
    have LMc3 := Aside0.mk c3
    clear c3
    obtain ⟨y232, hy232⟩ : ∃ y_ : List (S32), y_ = (y229 ++ l0) := ⟨_, rfl⟩
    replace H : (skirmishref48_Push.l0 k l1 y232 0) = some r := by first | (rw [hy232]; with_reducible exact H) | (have H2_ := (Option.bind_some _ _).symm.trans H; rw [hy232]; with_reducible exact H2_) | (have H2_ := (Option.bind_some _ _).symm.trans H; with_reducible exact H2_) | with_reducible exact H | (rw [hy232]; exact H) | exact H
    have Ny232 := Aside0.mk hy232
    clear hy232
    have H' := Aside0.mk H
    clear H
    go_enter Try.func11, Try.ntmps11
    go_wp2_with (first | ((with_reducible refine gate_dst (N := 7) rfl ?_); refine Kd.N_lit k32 _ 32 ?hg (N' := 7) ?hd (xs := ([] : List (S32))) (inner := []) (ok := (fun k_ => ((P0_ k_ ∨ P1_ k_) ∨ w.heap.size ≤ k_))) (okp := (fun k_ => ((P0_ k_ ∨ P1_ k_) ∨ w.heap.size ≤ k_))) ?hr ?hp (fun _ hk => hk) ((show ∀ k_, w.heap.size ≤ k_ → (fun k_ => ((P0_ k_ ∨ P1_ k_) ∨ w.heap.size ≤ k_)) k_ from fun k_ hk => (.inr (Nat.le_trans (below_size (by repeat (first | (with_reducible first | exact HB.out | apply below_alloc | apply pw_below_drewN | apply below_drew1) | exact HB.out))) hk))) _ (Nat.le_refl _)) (Below.refl _ _) (Nat.le_refl _) (by simp) ?_; (case hd => rfl); (case hg => rfl); (case hr => first | (go_simp; done) | (go_simp; rfl)); (case hp => exact (Reps.none _ _)); intro v230 w4 ho5 hb hg_ hnew_; clear hg_ hnew_; (first | rw [← Ny229.out] at ho5 | (simp only [Int.reduceToNat] at ho5; rw [← Ny229.out] at ho5)); have n0_ := Aside0.mk (Kd.V_elder' (by (with_reducible repeat (first | apply Kd.V_alloc | apply Kd.V_drewN | apply Kd.V_drew)); exact HO0.out) (Kd.N_base ho5) hb); have n1_ := Aside0.mk (Kd.V_elder' (by (with_reducible repeat (first | apply Kd.V_alloc | apply Kd.V_drewN | apply Kd.V_drew)); exact HO1.out) (Kd.N_base ho5) hb); have n2_ := Aside0.mk (Kd.N_lower ho5 (below_size (by repeat (first | (with_reducible first | exact HB.out | apply below_alloc | apply pw_below_drewN | apply below_drew1) | exact HB.out)))); have n3_ := Aside0.mk (below_step (by repeat (first | (with_reducible first | exact HB.out | apply below_alloc | apply pw_below_drewN | apply below_drew1) | exact HB.out)) hb); clear HO0; clear HO1; clear HB; have HO0 := n0_; have HO1 := n1_; have HO231 := n2_; have HB := n3_; clear n0_ n1_ n2_ n3_; clear hb ho5) | ((with_reducible refine gate_builtin (b := .append) (xs := #[.tmp 7, .tmp 8]) rfl ?_); at_builtin; refine Kd.N_append_rows k32 (w0 := w) w.heap.size rfl (.tmp 7) (.tmp 8) 22 32 (.agg #[(.int .i64 0), (.int .i64 0), (.int .i64 0), (.int .i64 0), (.int .i64 0), (.int .i64 0), (.int .u64 0), (.int .i64 0), (.int .i64 0), (.int .i64 0), (.slice none 0 0), (.string ⟨#[]⟩)]) 120 rfl Try.underlying22 info32 rfl (by decide) (by omega) v230 y229 l0 _ _ _ (fun k_ => ((P0_ k_ ∨ P1_ k_) ∨ w.heap.size ≤ k_)) (fun k_ => ((fun k_ => ((P0_ k_ ∨ P1_ k_) ∨ w.heap.size ≤ k_))) k_ ∧ some k_ ≠ (v230 : Value).ownBlock) rfl rfl ?aO ?aR (fun _ hk => hk) ?aF ?aB ?aS ?aL ?_; (case aR => exact (by skip; exact Kd.V_F (Kd.V_mono (ok' := (fun k_ => ((fun k_ => ((P0_ k_ ∨ P1_ k_) ∨ w.heap.size ≤ k_))) k_ ∧ some k_ ≠ (v230 : Value).ownBlock)) (HO0.out) (fun k_ hk => ⟨hk.1, hk.2⟩)))); (case aB => exact (by repeat (first | (with_reducible first | exact HB.out | apply below_alloc | apply pw_below_drewN | apply below_drew1) | exact HB.out))); (case aF => exact (fun k_ hk => (.inr (Nat.le_trans (below_size (by repeat (first | (with_reducible first | exact HB.out | apply below_alloc | apply pw_below_drewN | apply below_drew1) | exact HB.out))) hk)))); (case aO => exact (by (with_reducible repeat (first | apply Kd.N_alloc | apply Kd.N_drewN | apply Kd.N_drew)); exact HO231.out)); (case aS => exact (below_size (by repeat (first | (with_reducible first | exact HB.out | apply below_alloc | apply pw_below_drewN | apply below_drew1) | exact HB.out)))); (case aL => have := LMc3.out; omega); intro v233 w6 ho hb hg hat; rw [← Ny232.out] at ho; have n0_ := Aside0.mk (Kd.V_afterv (ok := (fun k_ => ((P0_ k_ ∨ P1_ k_) ∨ w.heap.size ≤ k_))) (by (with_reducible repeat (first | apply Kd.V_alloc | apply Kd.V_drewN | apply Kd.V_drew)); exact HO0.out) hg hat); have n1_ := Aside0.mk (Kd.V_afterv (ok := (fun k_ => ((P0_ k_ ∨ P1_ k_) ∨ w.heap.size ≤ k_))) (by (with_reducible repeat (first | apply Kd.V_alloc | apply Kd.V_drewN | apply Kd.V_drew)); exact HO1.out) hg hat); have n2_ := Aside0.mk (hb); have n3_ := Aside0.mk (ho); clear HO0; clear HO1; clear HB; clear HO231; have HO0 := n0_; have HO1 := n1_; have HB := n2_; have HO234 := n3_; clear n0_ n1_ n2_ n3_; clear ho hb hg hat))
    go_loopg [5, 6] k (fun kq v5 v6 w' => ∃ (x5_1 : List (S32)) (x6_1 : Int), v6 = .int .i64 x6_1 ∧ Aside0 (skirmishref48_Push.l0 kq l1 x5_1 x6_1 = some r) ∧ Aside0 (kq ≤ k) ∧ Aside0 (Kd.V k32 32 w' w.heap.size (fun k_ => ((P0_ k_ ∨ P1_ k_) ∨ w.heap.size ≤ k_) ∧ some k_ ≠ (v5 : Value).ownBlock) (.slice A1 l1.length c1) l1) ∧ Aside0 (Kd.N k32 32 w' w.heap.size (fun k_ => ((P0_ k_ ∨ P1_ k_) ∨ w.heap.size ≤ k_)) v5 x5_1) ∧ Aside0 (Below w.heap.size w w'))
    case atStart => exact ⟨(y232), (0), (by first | rfl | (simp; done) | (simp [*]; done)), H', ⟨Nat.le_refl _⟩, ⟨by (with_reducible repeat (first | apply Kd.V_alloc | apply Kd.V_drewN | apply Kd.V_drew)); exact HO1.out⟩, ⟨by (with_reducible repeat (first | apply Kd.N_alloc | apply Kd.N_drewN | apply Kd.N_drew)); exact HO234.out⟩, ⟨by repeat (first | (with_reducible first | exact HB.out | apply below_alloc | apply pw_below_drewN | apply below_drew1) | exact HB.out)⟩⟩
    case round =>
      clear H'
      try clear c1
      try clear p2
      try clear c3
      obtain ⟨x5_1, x6_1, rfl, HA, HK1, HO_1, HO_5, HB⟩ := hrel
      cases gk with
      | zero => exact absurd HA.out (by simp [skirmishref48_Push.l0])
      | succ k1 =>
        have H := HA.out
        clear HA
        simp only [skirmishref48_Push.l0] at H
        by_cases c7 : x6_1 < (l1.length : Int)
        · rw [if_pos c7] at H
          have c7b0 : decide (x6_1 < (l1.length : Int)) = true := decide_eq_true c7
          clear c7
          by_cases c8 : (x5_1.length : Int) < 256
          · rw [if_pos c8] at H
            have c8b0 : decide ((x5_1.length : Int) < 256) = true := decide_eq_true c8
            have c8b1 : decide (x5_1.length < 256) = true := decide_eq_true (by omega)
            clear c8
            by_cases c9 : 0 ≤ x6_1
            · rw [if_pos c9] at H
              have c9b0 : decide (0 ≤ x6_1) = true := decide_eq_true c9
              clear c9
              by_cases c10 : x5_1.length < 1172812402961
              · rw [if_pos c10] at H
                have LMc10 := Aside0.mk c10
                clear c10
                obtain ⟨y236, hy236⟩ : ∃ y_ : List (S32), y_ = (x5_1 ++ [(⟨(rd_T32 l1 x6_1).f0, (rd_T32 l1 x6_1).f1, (rd_T32 l1 x6_1).f2, (rd_T32 l1 x6_1).f3, (rd_T32 l1 x6_1).f4, (rd_T32 l1 x6_1).f5, (rd_T32 l1 x6_1).f6, (⟨(rd_T32 l1 x6_1).f7.f0, (rd_T32 l1 x6_1).f7.f1, (rd_T32 l1 x6_1).f7.f2, (rd_T32 l1 x6_1).f7.f3⟩ : S30), (rd_T32 l1 x6_1).f8⟩ : S32)]) := ⟨_, rfl⟩
                replace H : (skirmishref48_Push.l0 k1 l1 y236 (wrap64 (x6_1 + 1))) = some r := by first | (rw [hy236]; with_reducible exact H) | (have H2_ := (Option.bind_some _ _).symm.trans H; rw [hy236]; with_reducible exact H2_) | (have H2_ := (Option.bind_some _ _).symm.trans H; with_reducible exact H2_) | with_reducible exact H | (rw [hy236]; exact H) | exact H
                have Ny236 := Aside0.mk hy236
                clear hy236
                have H' := Aside0.mk H
                clear H
                obtain ⟨Ao11, co11, eo11⟩ := Kd.N_slice HO_5.out
                subst eo11
                have p235 : 0 ≤ (x6_1 : Int) := of_decide_eq_true (by first | (with_reducible assumption) | assumption)
                have q235 : x6_1 < (l1.length : Int) := of_decide_eq_true (by first | (with_reducible assumption) | assumption)
                obtain ⟨ad235, A235_10, c235_10, e235, hx235_0, hx235_1, hx235_2, hx235_3, hx235_4, hx235_5, hx235_6, hx235_7, hx235_8, hx235_9, hx235_10, hx235_11, hl235_10, hi235_10⟩ := at_T32 (Kd.V_reads' HO_1.out).2.2 x6_1 p235 q235
                cases e235
                obtain ⟨ce235, hce235, hMe235, hcc235⟩ := Kd.V_get HO_1.out z32 x6_1 p235 (by first | exact q235 | exact of_decide_eq_true (by first | (with_reducible assumption) | assumption) | (have e_ := (Kd.V_reads' HO_1.out).1; omega))
                obtain ⟨ua235_10, uc235_10, rfl, ul235_10, ge235_10⟩ := k32_openF hMe235
                have hv235_10 := hcc235 10 _ rfl
                rw [add_field _ _ 10 (by omega)] at hv235_10
                replace hv235_10 := Option.some.inj (hv235_10.symm.trans hx235_10)
                injection hv235_10 with hva_ hvn_ hvc_
                rw [hva_] at ge235_10
                rw [hvc_] at ul235_10
                have HL235_10 := Aside0.mk (show Kd.V k49 49 _ w.heap.size _ _ ((rd_T32 l1 x6_1).f7.f3) from Kd.V_mk ul235_10 ge235_10)
                clear hva_ hvn_ hvc_ ge235_10 ul235_10
                clear hcc235 hce235
                have HR235_10 := Aside0.mk hi235_10
                have HC235_10 := Aside0.mk hl235_10
                clear hi235_10 hl235_10
                replace p235 := eq_true p235
                replace q235 := eq_true q235
                go_wp2_with (first | ((with_reducible refine gate_builtin (b := .append) (xs := #[.tmp 19, .tmp 24]) rfl ?_); at_builtin; refine Kd.N_append k32 (w0 := w) w.heap.size rfl (.tmp 19) (.tmp 24) 22 32 (.agg #[(.int .i64 0), (.int .i64 0), (.int .i64 0), (.int .i64 0), (.int .i64 0), (.int .i64 0), (.int .u64 0), (.int .i64 0), (.int .i64 0), (.int .i64 0), (.slice none 0 0), (.string ⟨#[]⟩)]) 120 rfl Try.underlying22 info32 rfl (by decide) (by omega) (.slice Ao11 x5_1.length co11) x5_1 (⟨(rd_T32 l1 x6_1).f0, (rd_T32 l1 x6_1).f1, (rd_T32 l1 x6_1).f2, (rd_T32 l1 x6_1).f3, (rd_T32 l1 x6_1).f4, (rd_T32 l1 x6_1).f5, (rd_T32 l1 x6_1).f6, (⟨(rd_T32 l1 x6_1).f7.f0, (rd_T32 l1 x6_1).f7.f1, (rd_T32 l1 x6_1).f7.f2, (rd_T32 l1 x6_1).f7.f3⟩ : S30), (rd_T32 l1 x6_1).f8⟩ : S32) [.int .i64 ((rd_T32 l1 x6_1).f0), .int .i64 ((rd_T32 l1 x6_1).f1), .int .i64 ((rd_T32 l1 x6_1).f2), .int .i64 ((rd_T32 l1 x6_1).f3), .int .i64 ((rd_T32 l1 x6_1).f4), .int .i64 ((rd_T32 l1 x6_1).f5), .int .u64 ((rd_T32 l1 x6_1).f6), .int .i64 ((rd_T32 l1 x6_1).f7.f0), .int .i64 ((rd_T32 l1 x6_1).f7.f1), .int .i64 ((rd_T32 l1 x6_1).f7.f2), .slice A235_10 ((rd_T32 l1 x6_1).f7.f3).length c235_10, .string ((rd_T32 l1 x6_1).f8)] (fun k_ => ((P0_ k_ ∨ P1_ k_) ∨ w.heap.size ≤ k_)) (fun k_ => ((fun k_ => ((P0_ k_ ∨ P1_ k_) ∨ w.heap.size ≤ k_))) k_ ∧ some k_ ≠ (.slice Ao11 x5_1.length co11 : Value).ownBlock) rfl rfl ?aP (fun _ hk => hk) ?aF ?aO ?aB ?aS ?aL ?_; (case aP => exact (k32_mkF _ _ (⟨(rd_T32 l1 x6_1).f0, (rd_T32 l1 x6_1).f1, (rd_T32 l1 x6_1).f2, (rd_T32 l1 x6_1).f3, (rd_T32 l1 x6_1).f4, (rd_T32 l1 x6_1).f5, (rd_T32 l1 x6_1).f6, (⟨(rd_T32 l1 x6_1).f7.f0, (rd_T32 l1 x6_1).f7.f1, (rd_T32 l1 x6_1).f7.f2, (rd_T32 l1 x6_1).f7.f3⟩ : S30), (rd_T32 l1 x6_1).f8⟩ : S32) (Kd.V_reads' (Kd.V_mono (ok' := (fun k_ => ((fun k_ => ((P0_ k_ ∨ P1_ k_) ∨ w.heap.size ≤ k_))) k_ ∧ some k_ ≠ (.slice Ao11 x5_1.length co11 : Value).ownBlock)) (HL235_10.out) (fun k_ hk => ⟨hk.1, hk.2⟩))).2.1 (Kd.V_F (Kd.V_mono (ok' := (fun k_ => ((fun k_ => ((P0_ k_ ∨ P1_ k_) ∨ w.heap.size ≤ k_))) k_ ∧ some k_ ≠ (.slice Ao11 x5_1.length co11 : Value).ownBlock)) (HL235_10.out) (fun k_ hk => ⟨hk.1, hk.2⟩))))); (case aB => exact (by repeat (first | (with_reducible first | exact HB.out | apply below_alloc | apply pw_below_drewN | apply below_drew1) | exact HB.out))); (case aF => exact (fun k_ hk => (.inr (Nat.le_trans (below_size (by repeat (first | (with_reducible first | exact HB.out | apply below_alloc | apply pw_below_drewN | apply below_drew1) | exact HB.out))) hk)))); (case aO => exact (by (with_reducible repeat (first | apply Kd.N_alloc | apply Kd.N_drewN | apply Kd.N_drew)); exact HO_5.out)); (case aS => exact (below_size (by repeat (first | (with_reducible first | exact HB.out | apply below_alloc | apply pw_below_drewN | apply below_drew1) | exact HB.out)))); (case aL => have := LMc10.out; omega); intro v237 w12 ho hb hg hat; rw [← Ny236.out] at ho; have n0_ := Aside0.mk (Kd.V_afterv (ok := (fun k_ => ((P0_ k_ ∨ P1_ k_) ∨ w.heap.size ≤ k_))) (by (with_reducible repeat (first | apply Kd.V_alloc | apply Kd.V_drewN | apply Kd.V_drew)); exact HO_1.out) hg hat); have n1_ := Aside0.mk (Kd.V_afterv (ok := (fun k_ => ((P0_ k_ ∨ P1_ k_) ∨ w.heap.size ≤ k_))) (by (with_reducible repeat (first | apply Kd.V_alloc | apply Kd.V_drewN | apply Kd.V_drew)); exact HL235_10.out) hg hat); have n2_ := Aside0.mk (hb); have n3_ := Aside0.mk (ho); clear HO_1; clear HL235_10; clear HB; clear HO_5; have HO_1 := n0_; have HL235_10 := n1_; have HB := n2_; have HO238 := n3_; clear n0_ n1_ n2_ n3_; clear ho hb hg hat))
                go_roundg k1
                case measure => have := HK1.out; omega
                case rel => exact ⟨(y236), (wrap64 (x6_1 + 1)), (by first | rfl | (simp; done) | (simp [*]; done)), H', ⟨by have := HK1.out; omega⟩, ⟨by (with_reducible repeat (first | apply Kd.V_alloc | apply Kd.V_drewN | apply Kd.V_drew)); exact HO_1.out⟩, ⟨by (with_reducible repeat (first | apply Kd.N_alloc | apply Kd.N_drewN | apply Kd.N_drew)); exact HO238.out⟩, ⟨by repeat (first | (with_reducible first | exact HB.out | apply below_alloc | apply pw_below_drewN | apply below_drew1) | exact HB.out)⟩⟩
              · rw [if_neg c10] at H
                exact absurd H (by simp)
            · rw [if_neg c9] at H
              exact absurd H (by simp)
          · rw [if_neg c8] at H
            have c8b0 : decide ((x5_1.length : Int) < 256) = false := decide_eq_false c8
            have c8b1 : decide (x5_1.length < 256) = false := decide_eq_false (by omega)
            clear c8
            have H' := Aside0.mk H
            clear H
            obtain ⟨Ao13, co13, eo13⟩ := Kd.N_slice HO_5.out
            subst eo13
            go_wp2
            go_roundg k1
            case measure => have := HK1.out; omega
            case rel => exact ⟨(x5_1), (wrap64 (x6_1 + 1)), (by first | rfl | (simp; done) | (simp [*]; done)), H', ⟨by have := HK1.out; omega⟩, ⟨by (with_reducible repeat (first | apply Kd.V_alloc | apply Kd.V_drewN | apply Kd.V_drew)); exact HO_1.out⟩, ⟨by (with_reducible repeat (first | apply Kd.N_alloc | apply Kd.N_drewN | apply Kd.N_drew)); exact HO_5.out⟩, ⟨by repeat (first | (with_reducible first | exact HB.out | apply below_alloc | apply pw_below_drewN | apply below_drew1) | exact HB.out)⟩⟩
        · rw [if_neg c7] at H
          have c7b0 : decide (x6_1 < (l1.length : Int)) = false := decide_eq_false c7
          clear c7
          obtain rfl := Option.some.inj H
          go_wp2
          go_ret
          exact ⟨_, by first | rfl | (simp [errW_none, errW_some] <;> rfl) | (simp [*, errW_none, errW_some] <;> rfl), by (with_reducible repeat (first | apply Kd.N_alloc | apply Kd.N_drewN | apply Kd.N_drew)); exact HO_5.out, by repeat (first | (with_reducible first | exact HB.out | apply below_alloc | apply pw_below_drewN | apply below_drew1) | exact HB.out)⟩
  · rw [if_neg c3] at H
    exact absurd H (by simp)

/-! ### skirmishlaw48_NetPushes: function 3 -/
def skirmishlaw48_NetPushes.j0 : Nat → List (S32) → List (S32) → Bool → Option (Bool)
  | 0, _, _, _ => none
  | k + 1, x0, x1, x10 => if x10 = true then ((skirmishlaw48_awake.f k).bind fun t241 => (some t241)) else ((net_Push.f k x0 x1).bind fun t242 => ((skirmishref48_Push.f k x0 x1).bind fun t245 => ((skirmishlaw48_same.f k t242 t245).bind fun t248 => (if t248 = true then ((skirmishlaw48_awake.f k).bind fun t249 => (some t249)) else (some false)))))
def skirmishlaw48_NetPushes.f (k : Nat) (l0 : List (S32)) (l1 : List (S32)) : Option (Bool) := (skirmishlaw48_huge.f k l0).bind fun t239 => (if t239 = true then (skirmishlaw48_NetPushes.j0 k l0 l1 true) else ((skirmishlaw48_huge.f k l1).bind fun t240 => (skirmishlaw48_NetPushes.j0 k l0 l1 t240)))
theorem skirmishlaw48_NetPushes.mono_l : ∀ k, (∀ y0 y1 y2, LeO (skirmishlaw48_NetPushes.j0 k y0 y1 y2) (skirmishlaw48_NetPushes.j0 (k + 1) y0 y1 y2))
  | 0 => fun _ _ _ r h => by simp [skirmishlaw48_NetPushes.j0] at h
  | k + 1 => by
    have ih0 := skirmishlaw48_NetPushes.mono_l k
    · intro y0 y1 y2
      unfold skirmishlaw48_NetPushes.j0
      repeat' first
      | (with_reducible exact ih0 _ _ _)
      | (with_reducible exact net_Push.mono _ _ _)
      | (with_reducible exact skirmishlaw48_awake.mono _)
      | (with_reducible exact skirmishlaw48_huge.mono _ _)
      | (with_reducible exact skirmishlaw48_same.mono _ _ _)
      | (with_reducible exact skirmishref48_Push.mono _ _ _)
      | (with_reducible exact LeO.refl _)
      | (with_reducible exact LeO.none _)
      | (with_reducible refine LeO.ite ?_ ?_)
      | (with_reducible refine LeO.bind ?_ (fun _ => ?_))
      | exact ih0 _ _ _
      | exact net_Push.mono _ _ _
      | exact skirmishlaw48_awake.mono _
      | exact skirmishlaw48_huge.mono _ _
      | exact skirmishlaw48_same.mono _ _ _
      | exact skirmishref48_Push.mono _ _ _
      | exact LeO.none _
      | refine LeO.ite ?_ ?_
      | refine LeO.bind ?_ (fun _ => ?_)
theorem skirmishlaw48_NetPushes.mono : ∀ a0 a1 k, LeO (skirmishlaw48_NetPushes.f k a0 a1) (skirmishlaw48_NetPushes.f (k + 1) a0 a1) := by
  intro a0 a1 k
  have ih0 := skirmishlaw48_NetPushes.mono_l k
  unfold skirmishlaw48_NetPushes.f
  repeat' first
      | (with_reducible exact ih0 _ _ _)
      | (with_reducible exact net_Push.mono _ _ _)
      | (with_reducible exact skirmishlaw48_awake.mono _)
      | (with_reducible exact skirmishlaw48_huge.mono _ _)
      | (with_reducible exact skirmishlaw48_same.mono _ _ _)
      | (with_reducible exact skirmishref48_Push.mono _ _ _)
      | (with_reducible exact LeO.refl _)
      | (with_reducible exact LeO.none _)
      | (with_reducible refine LeO.ite ?_ ?_)
      | (with_reducible refine LeO.bind ?_ (fun _ => ?_))
      | exact ih0 _ _ _
      | exact net_Push.mono _ _ _
      | exact skirmishlaw48_awake.mono _
      | exact skirmishlaw48_huge.mono _ _
      | exact skirmishlaw48_same.mono _ _ _
      | exact skirmishref48_Push.mono _ _ _
      | exact LeO.none _
      | refine LeO.ite ?_ ?_
      | refine LeO.bind ?_ (fun _ => ?_)
set_option maxHeartbeats 8000000 in
set_option maxRecDepth 100000 in
theorem skirmishlaw48_NetPushes.calls (k : Nat) (A0 : Option Addr) (c0 : Nat) (l0 : List (S32)) (A1 : Option Addr) (c1 : Nat) (l1 : List (S32)) (r : Bool) (hr : r = true) (w : World) (hr0 : Kd.C k32 w A0 l0.length l0) (hc0 : l0.length ≤ c0) (hr1 : Kd.C k32 w A1 l1.length l1) (hc1 : l1.length ≤ c1) (h : skirmishlaw48_NetPushes.f k l0 l1 = some r) :
    Calls Try.prog 3 #[.slice A0 l0.length c0, .slice A1 l1.length c1] w fun e w' => e = .returned (.bool r) ∧ Below w.heap.size w w' := by
  have Hr := Aside0.mk hr
  clear hr
  have HR0 := Aside0.mk hr0
  have HC0 := Aside0.mk hc0
  clear hr0 hc0
  have HR1 := Aside0.mk hr1
  have HC1 := Aside0.mk hc1
  clear hr1 hc1
  have HB := Aside0.mk (Below.refl w.heap.size w)
  have H : ((skirmishlaw48_huge.f k l0).bind fun t239 => (if t239 = true then (skirmishlaw48_NetPushes.j0 k l0 l1 true) else ((skirmishlaw48_huge.f k l1).bind fun t240 => (skirmishlaw48_NetPushes.j0 k l0 l1 t240)))) = some r := h
  clear h
  have HC3 := Aside0.mk H
  clear H
  go_enter Try.func3, Try.ntmps3
  go_upto_region 1 with (fail)
  go_cut [10] (fun v10 wc => ∃ (kq : Nat) (x10_2 : Bool), v10 = .bool x10_2 ∧ Aside0 (skirmishlaw48_NetPushes.j0 kq l0 l1 x10_2 = some r) ∧ Aside0 (kq ≤ k) ∧ Aside0 (Below w.heap.size w wc))
  case first =>
    have H := HC3.out
    clear HC3
    replace H := Option.bind_eq_some_iff.mp H
    obtain ⟨t239, A40, H⟩ := H
    replace H : (if t239 = true then (skirmishlaw48_NetPushes.j0 k l0 l1 true) else ((skirmishlaw48_huge.f k l1).bind fun t240 => (skirmishlaw48_NetPushes.j0 k l0 l1 t240))) = some r := H
    have A4 := Aside0.mk A40
    clear A40
    by_cases c5 : t239 = true
    · subst c5
      have H1 : (skirmishlaw48_NetPushes.j0 k l0 l1 true) = some r := by rw [if_pos rfl] at H; exact H
      clear H
      have H := H1
      clear H1
      have H' := Aside0.mk H
      clear H
      go_wp2_with (first | ((with_reducible refine gate_callee (f := 7) rfl ?_); refine goesL_ (some 6) rfl rfl Try.func7 (by kernel_rfl) rfl #[.slice A0 l0.length c0] rfl (by (try simp only [List.map_toArray, List.map_cons, List.map_nil]); first | done | rfl | (simp only [List.length_drop, List.length_take]; rfl)) ?_; (with_reducible refine (skirmishlaw48_huge.calls k _ _ l0 true _ ?side1 ?side2 A4.out).mono ?_); (case side1 => repeat (first | exact (Kd.C_below HR0.out HB.out) | (with_reducible refine Kd.C_alloc ?_ _) | (with_reducible refine Kd.C_drewN ?_ _) | (with_reducible refine Kd.C_drew ?_))); (case side2 => exact HC0.out); rintro e w6 ⟨rfl, hb⟩; refine ⟨_, rfl, ?_⟩; have n0_ := Aside0.mk (below_step (by repeat (first | (with_reducible first | exact HB.out | apply below_alloc | apply pw_below_drewN | apply below_drew1) | exact HB.out)) hb); clear HB; have HB := n0_; clear n0_; (try clear hb); (try clear hb2); (try clear hk); (try clear hi)))
      go_meet
      case rel => exact ⟨_, (true), (by first | rfl | (simp; done) | (simp [*]; done)), H', ⟨by first | omega | exact Nat.le_refl _⟩, ⟨by repeat (first | (with_reducible first | exact HB.out | apply below_alloc | apply pw_below_drewN | apply below_drew1) | exact HB.out)⟩⟩
    · replace c5 := Bool.eq_false_iff.mpr c5
      subst c5
      have H1 : ((skirmishlaw48_huge.f k l1).bind fun t240 => (skirmishlaw48_NetPushes.j0 k l0 l1 t240)) = some r := by rw [if_neg (show ¬ (false = true) by decide)] at H; exact H
      clear H
      have H := H1
      clear H1
      replace H := Option.bind_eq_some_iff.mp H
      obtain ⟨t240, A70, H⟩ := H
      replace H : (skirmishlaw48_NetPushes.j0 k l0 l1 t240) = some r := H
      have A7 := Aside0.mk A70
      clear A70
      have H' := Aside0.mk H
      clear H
      go_wp2_with (first | ((with_reducible refine gate_callee (f := 7) rfl ?_); refine goesL_ (some 6) rfl rfl Try.func7 (by kernel_rfl) rfl #[.slice A0 l0.length c0] rfl (by (try simp only [List.map_toArray, List.map_cons, List.map_nil]); first | done | rfl | (simp only [List.length_drop, List.length_take]; rfl)) ?_; (with_reducible refine (skirmishlaw48_huge.calls k _ _ l0 false _ ?side1 ?side2 A4.out).mono ?_); (case side1 => repeat (first | exact (Kd.C_below HR0.out HB.out) | (with_reducible refine Kd.C_alloc ?_ _) | (with_reducible refine Kd.C_drewN ?_ _) | (with_reducible refine Kd.C_drew ?_))); (case side2 => exact HC0.out); rintro e w8 ⟨rfl, hb⟩; refine ⟨_, rfl, ?_⟩; have n0_ := Aside0.mk (below_step (by repeat (first | (with_reducible first | exact HB.out | apply below_alloc | apply pw_below_drewN | apply below_drew1) | exact HB.out)) hb); clear HB; have HB := n0_; clear n0_; (try clear hb); (try clear hb2); (try clear hk); (try clear hi)) | (go_at_call 7; (with_reducible refine (skirmishlaw48_huge.calls k _ _ l1 t240 _ ?side1 ?side2 A7.out).mono ?_); (case side1 => repeat (first | exact (Kd.C_below HR1.out HB.out) | (with_reducible refine Kd.C_alloc ?_ _) | (with_reducible refine Kd.C_drewN ?_ _) | (with_reducible refine Kd.C_drew ?_))); (case side2 => exact HC1.out); rintro e w9 ⟨rfl, hb⟩; have n0_ := Aside0.mk (below_step (by repeat (first | (with_reducible first | exact HB.out | apply below_alloc | apply pw_below_drewN | apply below_drew1) | exact HB.out)) hb); clear HB; have HB := n0_; clear n0_; (try clear hb); (try clear hb2); (try clear hk); (try clear hi)))
      go_meet
      case rel => exact ⟨_, (t240), (by first | rfl | (simp; done) | (simp [*]; done)), H', ⟨by first | omega | exact Nat.le_refl _⟩, ⟨by repeat (first | (with_reducible first | exact HB.out | apply below_alloc | apply pw_below_drewN | apply below_drew1) | exact HB.out)⟩⟩
  case rest =>
    clear HC3
    try clear c1
    try clear p2
    try clear c3
    try clear c5
    try clear c7
    obtain ⟨kq, x10_2, rfl, HA, HJ2, HB⟩ := hcut
    cases kq with
    | zero => exact absurd HA.out (by simp [skirmishlaw48_NetPushes.j0])
    | succ kj2 =>
      have H := HA.out
      clear HA
      simp only [skirmishlaw48_NetPushes.j0] at H
      by_cases c10 : x10_2 = true
      · subst c10
        have H1 : ((skirmishlaw48_awake.f kj2).bind fun t241 => (some t241)) = some r := by rw [if_pos rfl] at H; exact H
        clear H
        have H := H1
        clear H1
        replace H := Option.bind_eq_some_iff.mp H
        obtain ⟨t241, A110, H⟩ := H
        replace H : (some t241) = some r := H
        have A11 := Aside0.mk A110
        clear A110
        obtain rfl := Option.some.inj H
        go_wp2_with (first | ((with_reducible refine gate_callee (f := 8) rfl ?_); refine goesL_ (some 11) rfl rfl Try.func8 (by kernel_rfl) rfl #[] rfl (by (try simp only [List.map_toArray, List.map_cons, List.map_nil]); first | done | rfl | (simp only [List.length_drop, List.length_take]; rfl)) ?_; (with_reducible refine (skirmishlaw48_awake.calls kj2 t241 Hr.out _ A11.out).mono ?_); rintro e w12 ⟨rfl, hb⟩; refine ⟨_, rfl, ?_⟩; have n0_ := Aside0.mk (below_step (by repeat (first | (with_reducible first | exact HB.out | apply below_alloc | apply pw_below_drewN | apply below_drew1) | exact HB.out)) hb); clear HB; have HB := n0_; clear n0_; (try clear hb); (try clear hb2); (try clear hk); (try clear hi)))
        go_ret
        exact ⟨by first | rfl | (simp [errW_none, errW_some] <;> rfl) | (simp [*, errW_none, errW_some] <;> rfl), by repeat (first | (with_reducible first | exact HB.out | apply below_alloc | apply pw_below_drewN | apply below_drew1) | exact HB.out)⟩
      · replace c10 := Bool.eq_false_iff.mpr c10
        subst c10
        have H1 : ((net_Push.f kj2 l0 l1).bind fun t242 => ((skirmishref48_Push.f kj2 l0 l1).bind fun t245 => ((skirmishlaw48_same.f kj2 t242 t245).bind fun t248 => (if t248 = true then ((skirmishlaw48_awake.f kj2).bind fun t249 => (some t249)) else (some false))))) = some r := by rw [if_neg (show ¬ (false = true) by decide)] at H; exact H
        clear H
        have H := H1
        clear H1
        replace H := Option.bind_eq_some_iff.mp H
        obtain ⟨t242, A130, H⟩ := H
        replace H : ((skirmishref48_Push.f kj2 l0 l1).bind fun t245 => ((skirmishlaw48_same.f kj2 t242 t245).bind fun t248 => (if t248 = true then ((skirmishlaw48_awake.f kj2).bind fun t249 => (some t249)) else (some false)))) = some r := H
        have A13 := Aside0.mk A130
        clear A130
        replace H := Option.bind_eq_some_iff.mp H
        obtain ⟨t245, A140, H⟩ := H
        replace H : ((skirmishlaw48_same.f kj2 t242 t245).bind fun t248 => (if t248 = true then ((skirmishlaw48_awake.f kj2).bind fun t249 => (some t249)) else (some false))) = some r := H
        have A14 := Aside0.mk A140
        clear A140
        replace H := Option.bind_eq_some_iff.mp H
        obtain ⟨t248, A150, H⟩ := H
        replace H : (if t248 = true then ((skirmishlaw48_awake.f kj2).bind fun t249 => (some t249)) else (some false)) = some r := H
        have A15 := Aside0.mk A150
        clear A150
        by_cases c16 : t248 = true
        · subst c16
          have H1 : ((skirmishlaw48_awake.f kj2).bind fun t249 => (some t249)) = some r := by rw [if_pos rfl] at H; exact H
          clear H
          have H := H1
          clear H1
          replace H := Option.bind_eq_some_iff.mp H
          obtain ⟨t249, A170, H⟩ := H
          replace H : (some t249) = some r := H
          have A17 := Aside0.mk A170
          clear A170
          obtain rfl := Option.some.inj H
          go_wp2_with (first | ((with_reducible refine gate_callee (f := 10) rfl ?_); refine goesL_ (some 14) rfl rfl Try.func10 (by kernel_rfl) rfl #[.slice A0 l0.length c0, .slice A1 l1.length c1] rfl (by (try simp only [List.map_toArray, List.map_cons, List.map_nil]); first | done | rfl | (simp only [List.length_drop, List.length_take]; rfl)) ?_; (with_reducible refine (net_Push.calls kj2 (fun k_ => k_ < w.heap.size) _ _ l0 (fun k_ => k_ < w.heap.size) _ _ l1 t242 _ ?side1 ?side2 A13.out).mono ?_); (case side1 => exact Kd.V_mk HC0.out (Kd.F_below (Kd.C_F k32_heap HR0.out) (by repeat (first | (with_reducible first | exact HB.out | apply below_alloc | apply pw_below_drewN | apply below_drew1) | exact HB.out)))); (case side2 => exact Kd.V_mk HC1.out (Kd.F_below (Kd.C_F k32_heap HR1.out) (by repeat (first | (with_reducible first | exact HB.out | apply below_alloc | apply pw_below_drewN | apply below_drew1) | exact HB.out)))); rintro e w18 ⟨v243, rfl, ho0, hb⟩; refine ⟨_, rfl, ?_⟩; have n0_ := Aside0.mk (Kd.N_lower (Kd.N_mono (ok' := fun k_ => True) ho0 (fun k_ hk_ => trivial)) (below_size (by repeat (first | (with_reducible first | exact HB.out | apply below_alloc | apply pw_below_drewN | apply below_drew1) | exact HB.out)))); have n1_ := Aside0.mk (below_step (by repeat (first | (with_reducible first | exact HB.out | apply below_alloc | apply pw_below_drewN | apply below_drew1) | exact HB.out)) hb); clear HB; have HO244 := n0_; have HB := n1_; clear n0_ n1_; (try clear hb); (try clear hb2); (try clear hk); (try clear hi); (try clear ho0)) | ((with_reducible refine gate_callee (f := 11) rfl ?_); refine goesL_ (some 17) rfl rfl Try.func11 (by kernel_rfl) rfl #[.slice A0 l0.length c0, .slice A1 l1.length c1] rfl (by (try simp only [List.map_toArray, List.map_cons, List.map_nil]); first | done | rfl | (simp only [List.length_drop, List.length_take]; rfl)) ?_; (with_reducible refine (skirmishref48_Push.calls kj2 (fun k_ => k_ < w.heap.size) _ _ l0 (fun k_ => k_ < w.heap.size) _ _ l1 t245 _ ?side1 ?side2 A14.out).mono ?_); (case side1 => exact Kd.V_mk HC0.out (Kd.F_below (Kd.C_F k32_heap HR0.out) (by repeat (first | (with_reducible first | exact HB.out | apply below_alloc | apply pw_below_drewN | apply below_drew1) | exact HB.out)))); (case side2 => exact Kd.V_mk HC1.out (Kd.F_below (Kd.C_F k32_heap HR1.out) (by repeat (first | (with_reducible first | exact HB.out | apply below_alloc | apply pw_below_drewN | apply below_drew1) | exact HB.out)))); rintro e w19 ⟨v246, rfl, ho0, hb⟩; refine ⟨_, rfl, ?_⟩; have n0_ := Aside0.mk (Kd.N_elder' (by (with_reducible repeat (first | apply Kd.N_alloc | apply Kd.N_drewN | apply Kd.N_drew)); exact HO244.out) (Kd.N_base ho0) hb); have n1_ := Aside0.mk (Kd.N_lower (Kd.N_mono (ok' := fun k_ => some k_ ≠ (v243 : Value).ownBlock) ho0 (fun k_ hk_ => Or.elim hk_ (fun hs_ => Or.elim hs_ (fun hs_ => fun e_ => Nat.not_le.2 hs_ (Kd.N_base HO244.out k_ e_.symm)) (fun hs_ => fun e_ => Nat.not_le.2 hs_ (Kd.N_base HO244.out k_ e_.symm))) (fun hn_ => (Kd.fresh' (Kd.N_lt (by (with_reducible repeat (first | apply Kd.N_alloc | apply Kd.N_drewN | apply Kd.N_drew)); exact HO244.out)) k_ hn_)))) (below_size (by repeat (first | (with_reducible first | exact HB.out | apply below_alloc | apply pw_below_drewN | apply below_drew1) | exact HB.out)))); have n2_ := Aside0.mk (below_step (by repeat (first | (with_reducible first | exact HB.out | apply below_alloc | apply pw_below_drewN | apply below_drew1) | exact HB.out)) hb); clear HO244; clear HB; have HO244 := n0_; have HO247 := n1_; have HB := n2_; clear n0_ n1_ n2_; (try clear hb); (try clear hb2); (try clear hk); (try clear hi); (try clear ho0); obtain ⟨Ao20, co20, eo20⟩ := Kd.N_slice HO244.out; subst eo20; obtain ⟨Ao21, co21, eo21⟩ := Kd.N_slice HO247.out; subst eo21) | ((with_reducible refine gate_callee (f := 9) rfl ?_); refine goesL_ (some 18) rfl rfl Try.func9 (by kernel_rfl) rfl #[.slice Ao20 t242.length co20, .slice Ao21 t245.length co21] rfl (by (try simp only [List.map_toArray, List.map_cons, List.map_nil]); first | done | rfl | (simp only [List.length_drop, List.length_take]; rfl)) ?_; (with_reducible refine (skirmishlaw48_same.calls kj2 _ _ t242 _ _ t245 true _ ?side1 ?side2 ?side3 ?side4 A15.out).mono ?_); (case side1 => repeat (first | exact (Kd.N_reads' HO244.out).2.2 | (with_reducible refine Kd.C_alloc ?_ _) | (with_reducible refine Kd.C_drewN ?_ _) | (with_reducible refine Kd.C_drew ?_))); (case side2 => exact (Kd.N_reads' HO244.out).2.1); (case side3 => repeat (first | exact (Kd.N_reads' HO247.out).2.2 | (with_reducible refine Kd.C_alloc ?_ _) | (with_reducible refine Kd.C_drewN ?_ _) | (with_reducible refine Kd.C_drew ?_))); (case side4 => exact (Kd.N_reads' HO247.out).2.1); rintro e w22 ⟨rfl, hb⟩; refine ⟨_, rfl, ?_⟩; have n0_ := Aside0.mk (Kd.N_below (by (with_reducible repeat (first | apply Kd.N_alloc | apply Kd.N_drewN | apply Kd.N_drew)); exact HO244.out) hb); have n1_ := Aside0.mk (Kd.N_below (by (with_reducible repeat (first | apply Kd.N_alloc | apply Kd.N_drewN | apply Kd.N_drew)); exact HO247.out) hb); have n2_ := Aside0.mk (below_step (by repeat (first | (with_reducible first | exact HB.out | apply below_alloc | apply pw_below_drewN | apply below_drew1) | exact HB.out)) hb); clear HO244; clear HO247; clear HB; have HO244 := n0_; have HO247 := n1_; have HB := n2_; clear n0_ n1_ n2_; (try clear hb); (try clear hb2); (try clear hk); (try clear hi)) | (go_at_call 8; (with_reducible refine (skirmishlaw48_awake.calls kj2 t249 Hr.out _ A17.out).mono ?_); rintro e w23 ⟨rfl, hb⟩; have n0_ := Aside0.mk (Kd.N_below (by (with_reducible repeat (first | apply Kd.N_alloc | apply Kd.N_drewN | apply Kd.N_drew)); exact HO244.out) hb); have n1_ := Aside0.mk (Kd.N_below (by (with_reducible repeat (first | apply Kd.N_alloc | apply Kd.N_drewN | apply Kd.N_drew)); exact HO247.out) hb); have n2_ := Aside0.mk (below_step (by repeat (first | (with_reducible first | exact HB.out | apply below_alloc | apply pw_below_drewN | apply below_drew1) | exact HB.out)) hb); clear HO244; clear HO247; clear HB; have HO244 := n0_; have HO247 := n1_; have HB := n2_; clear n0_ n1_ n2_; (try clear hb); (try clear hb2); (try clear hk); (try clear hi)))
          go_ret
          exact ⟨by first | rfl | (simp [errW_none, errW_some] <;> rfl) | (simp [*, errW_none, errW_some] <;> rfl), by repeat (first | (with_reducible first | exact HB.out | apply below_alloc | apply pw_below_drewN | apply below_drew1) | exact HB.out)⟩
        · replace c16 := Bool.eq_false_iff.mpr c16
          subst c16
          have H1 : (some false) = some r := by rw [if_neg (show ¬ (false = true) by decide)] at H; exact H
          exact absurd ((Option.some.inj H1).trans Hr.out) (by simp)

end Go.Proofs.Ytcpnmlmghjhelaa.F
