/- Functions that the laws of this seat reach: for each a plain function, and a proof that the Go code comes to its answers. Out of the kit's print program; mended by hand where it fell. -/
import Derived.Test.YtcpnmlmghjhelaaFx0
import Derived.Test.YtcpnmlmghjhelaaFx2
import Derived.Test.YtcpnmlmghjhelaaFx3
import Derived.Test.YtcpnmlmghjhelaaFx4
import Derived.Test.YtcpnmlmghjhelaaFx6
import Derived.Test.YtcpnmlmghjhelaaFx7
namespace Go.Proofs.Ytcpnmlmghjhelaa.F
open Go.RowKit Go.Proofs.YtcpnmlmghjhelaaW.PrintWords Go.Proofs.YtcpnmlmghjhelaaW.PrintLast Go.Proofs.YtcpnmlmghjhelaaW.PrintMore
attribute [local go_sem] max2_int min2_int max_two min_two max_three min_three max_four min_four   -- for this text's walks alone
set_option linter.unusedVariables false
set_option linter.unusedSimpArgs false

/-! ### skirmishref48_Duplicate: function 17 -/
def skirmishref48_Duplicate.j0 : Nat → List (S32) → Int → Bool → Option ((List (S32)) × Int)
  | 0, _, _, _ => none
  | k + 1, x0, x1, x14 => if x14 = true then (some (([] : List (S32)), 8)) else (if (x0.length : Int) ≥ 256 then (some (([] : List (S32)), 17)) else ((some (([] : List (S32)) : List (S32))).bind fun y319 => (if y319.length + x0.length < 1172812402961 then ((some (y319 ++ x0 : List (S32))).bind fun y322 => (if 0 ≤ x1 then (if x1 < (x0.length : Int) then (if y322.length < 1172812402961 then (some ((y322 ++ [(⟨(rd_T32 x0 x1).f0, (rd_T32 x0 x1).f1, (rd_T32 x0 x1).f2, (rd_T32 x0 x1).f3, (rd_T32 x0 x1).f4, (rd_T32 x0 x1).f5, (rd_T32 x0 x1).f6, (⟨(rd_T32 x0 x1).f7.f0, (rd_T32 x0 x1).f7.f1, (rd_T32 x0 x1).f7.f2, (rd_T32 x0 x1).f7.f3⟩ : S30), (rd_T32 x0 x1).f8⟩ : S32)]), 0)) else (none)) else (none)) else (none))) else (none))))
def skirmishref48_Duplicate.f (k : Nat) (l0 : List (S32)) (a1 : Int) : Option ((List (S32)) × Int) := if a1 < 0 then (skirmishref48_Duplicate.j0 k l0 a1 true) else (skirmishref48_Duplicate.j0 k l0 a1 (decide (a1 ≥ (l0.length : Int))))
theorem skirmishref48_Duplicate.mono_l : ∀ k, (∀ y0 y1 y2, LeO (skirmishref48_Duplicate.j0 k y0 y1 y2) (skirmishref48_Duplicate.j0 (k + 1) y0 y1 y2))
  | 0 => fun _ _ _ r h => by simp [skirmishref48_Duplicate.j0] at h
  | k + 1 => by
    have ih0 := skirmishref48_Duplicate.mono_l k
    · intro y0 y1 y2
      unfold skirmishref48_Duplicate.j0
      repeat' first
      | (with_reducible exact ih0 _ _ _)
      | (with_reducible exact LeO.refl _)
      | (with_reducible exact LeO.none _)
      | (with_reducible refine LeO.ite ?_ ?_)
      | (with_reducible refine LeO.bind ?_ (fun _ => ?_))
      | exact ih0 _ _ _
      | exact LeO.none _
      | refine LeO.ite ?_ ?_
      | refine LeO.bind ?_ (fun _ => ?_)
theorem skirmishref48_Duplicate.mono : ∀ a0 a1 k, LeO (skirmishref48_Duplicate.f k a0 a1) (skirmishref48_Duplicate.f (k + 1) a0 a1) := by
  intro a0 a1 k
  have ih0 := skirmishref48_Duplicate.mono_l k
  unfold skirmishref48_Duplicate.f
  repeat' first
      | (with_reducible exact ih0 _ _ _)
      | (with_reducible exact LeO.refl _)
      | (with_reducible exact LeO.none _)
      | (with_reducible refine LeO.ite ?_ ?_)
      | (with_reducible refine LeO.bind ?_ (fun _ => ?_))
      | exact ih0 _ _ _
      | exact LeO.none _
      | refine LeO.ite ?_ ?_
      | refine LeO.bind ?_ (fun _ => ?_)
set_option maxHeartbeats 8000000 in
set_option maxRecDepth 100000 in
theorem skirmishref48_Duplicate.calls (k : Nat) (P0_ : Nat → Prop) (A0 : Option Addr) (c0 : Nat) (l0 : List (S32)) (a1 : Int) (r1 : List (S32)) (r2 : Int) (w : World) (hs0 : Kd.V k32 32 w w.heap.size (fun k_ => P0_ k_) (.slice A0 l0.length c0) l0) (h : skirmishref48_Duplicate.f k l0 a1 = some (r1, r2)) :
    Calls Try.prog 17 #[.slice A0 l0.length c0, .int .i64 a1] w fun e w' => ∃ v0_ : Value, e = .returned (.tuple #[v0_, .int .i64 r2]) ∧ Kd.N k32 32 w' w.heap.size (fun k_ => (P0_ k_ ∨ w.heap.size ≤ k_)) v0_ r1 ∧ Below w.heap.size w w' := by
  have hu32 := Try.underlying32
  have HO0 := Aside0.mk (show Kd.V k32 32 w w.heap.size (fun k_ => (P0_ k_ ∨ w.heap.size ≤ k_)) (.slice A0 l0.length c0) l0 from Kd.V_mono hs0 (fun k_ hk => .inl hk))
  have HB := Aside0.mk (Below.refl w.heap.size w)
  have H : (if a1 < 0 then (skirmishref48_Duplicate.j0 k l0 a1 true) else (skirmishref48_Duplicate.j0 k l0 a1 (decide (a1 ≥ (l0.length : Int))))) = some (r1, r2) := h
  clear h
  have HC3 := Aside0.mk H
  clear H
  go_enter Try.func17, Try.ntmps17
  go_upto_region 1 with (fail)
  go_cut [14] (fun v14 wc => ∃ (kq : Nat) (x14_2 : Bool), v14 = .bool x14_2 ∧ Aside0 (skirmishref48_Duplicate.j0 kq l0 a1 x14_2 = some (r1, r2)) ∧ Aside0 (kq ≤ k) ∧ Aside0 (Kd.V k32 32 wc w.heap.size (fun k_ => (P0_ k_ ∨ w.heap.size ≤ k_)) (.slice A0 l0.length c0) l0) ∧ Aside0 (Below w.heap.size w wc))
  case first =>
    have H := HC3.out
    clear HC3
    by_cases c4 : a1 < 0
    · rw [if_pos c4] at H
      have c4b0 : decide (a1 < 0) = true := decide_eq_true c4
      clear c4
      (first | rw [c4b0] | (simp only [i64_w, i32_w]; rw [c4b0]) | skip)
      have H' := Aside0.mk H
      clear H
      go_wp2
      go_meet
      case rel => exact ⟨_, (true), (by first | rfl | (simp; done) | (simp [*]; done)), H', ⟨by first | omega | exact Nat.le_refl _⟩, ⟨by (with_reducible repeat (first | apply Kd.V_alloc | apply Kd.V_drewN | apply Kd.V_drew)); exact HO0.out⟩, ⟨by repeat (first | (with_reducible first | exact HB.out | apply below_alloc | apply pw_below_drewN | apply below_drew1) | exact HB.out)⟩⟩
    · rw [if_neg c4] at H
      have c4b0 : decide (a1 < 0) = false := decide_eq_false c4
      clear c4
      (first | rw [c4b0] | (simp only [i64_w, i32_w]; rw [c4b0]) | skip)
      have H' := Aside0.mk H
      clear H
      go_wp2
      go_meet
      case rel => exact ⟨_, (decide (a1 ≥ (l0.length : Int))), (by first | rfl | (simp; done) | (simp [*]; done)), H', ⟨by first | omega | exact Nat.le_refl _⟩, ⟨by (with_reducible repeat (first | apply Kd.V_alloc | apply Kd.V_drewN | apply Kd.V_drew)); exact HO0.out⟩, ⟨by repeat (first | (with_reducible first | exact HB.out | apply below_alloc | apply pw_below_drewN | apply below_drew1) | exact HB.out)⟩⟩
  case rest =>
    clear HC3
    try clear c1
    try clear p2
    try clear c4
    try clear c4b0
    obtain ⟨kq, x14_2, rfl, HA, HJ2, HO_0, HB⟩ := hcut
    cases kq with
    | zero => exact absurd HA.out (by simp [skirmishref48_Duplicate.j0])
    | succ kj2 =>
      have H := HA.out
      clear HA
      simp only [skirmishref48_Duplicate.j0] at H
      by_cases c5 : x14_2 = true
      · subst c5
        have H1 : (some (([] : List (S32)), 8)) = some (r1, r2) := by rw [if_pos rfl] at H; exact H
        clear H
        have H := H1
        clear H1
        simp only [Option.some.injEq, Prod.mk.injEq] at H
        obtain ⟨rfl, rfl⟩ := H
        go_wp2
        go_ret2
        exact ⟨_, by first | rfl | (simp [errW_none, errW_some] <;> rfl) | (simp [*, errW_none, errW_some] <;> rfl), by first | exact Kd.R_nil _ _ _ _ _ | exact Kd.N_nil _ _ _ _ _ | exact Kd.V_nil _ _ _ _ _ | exact Kd.Q_nil _ _ _ _ _ | exact Kd.S_nil _ _ _ _ _, by repeat (first | (with_reducible first | exact HB.out | apply below_alloc | apply pw_below_drewN | apply below_drew1) | exact HB.out)⟩
      · replace c5 := Bool.eq_false_iff.mpr c5
        subst c5
        have H1 : (if (l0.length : Int) ≥ 256 then (some (([] : List (S32)), 17)) else ((some (([] : List (S32)) : List (S32))).bind fun y319 => (if y319.length + l0.length < 1172812402961 then ((some (y319 ++ l0 : List (S32))).bind fun y322 => (if 0 ≤ a1 then (if a1 < (l0.length : Int) then (if y322.length < 1172812402961 then (some ((y322 ++ [(⟨(rd_T32 l0 a1).f0, (rd_T32 l0 a1).f1, (rd_T32 l0 a1).f2, (rd_T32 l0 a1).f3, (rd_T32 l0 a1).f4, (rd_T32 l0 a1).f5, (rd_T32 l0 a1).f6, (⟨(rd_T32 l0 a1).f7.f0, (rd_T32 l0 a1).f7.f1, (rd_T32 l0 a1).f7.f2, (rd_T32 l0 a1).f7.f3⟩ : S30), (rd_T32 l0 a1).f8⟩ : S32)]), 0)) else (none)) else (none)) else (none))) else (none)))) = some (r1, r2) := by rw [if_neg (show ¬ (false = true) by decide)] at H; exact H
        clear H
        have H := H1
        clear H1
        by_cases c6 : (l0.length : Int) ≥ 256
        · rw [if_pos c6] at H
          have c6b0 : decide (256 ≤ (l0.length : Int)) = true := decide_eq_true c6
          have c6b1 : decide (256 ≤ l0.length) = true := decide_eq_true (by omega)
          clear c6
          simp only [Option.some.injEq, Prod.mk.injEq] at H
          obtain ⟨rfl, rfl⟩ := H
          go_wp2
          go_ret2
          exact ⟨_, by first | rfl | (simp [errW_none, errW_some] <;> rfl) | (simp [*, errW_none, errW_some] <;> rfl), by first | exact Kd.R_nil _ _ _ _ _ | exact Kd.N_nil _ _ _ _ _ | exact Kd.V_nil _ _ _ _ _ | exact Kd.Q_nil _ _ _ _ _ | exact Kd.S_nil _ _ _ _ _, by repeat (first | (with_reducible first | exact HB.out | apply below_alloc | apply pw_below_drewN | apply below_drew1) | exact HB.out)⟩
        · rw [if_neg c6] at H
          have c6b0 : decide (256 ≤ (l0.length : Int)) = false := decide_eq_false c6
          have c6b1 : decide (256 ≤ l0.length) = false := decide_eq_false (by omega)
          clear c6
          obtain ⟨y319, hy319⟩ : ∃ y_ : List (S32), y_ = (([] : List (S32))) := ⟨_, rfl⟩
          replace H : (if y319.length + l0.length < 1172812402961 then ((some (y319 ++ l0 : List (S32))).bind fun y322 => (if 0 ≤ a1 then (if a1 < (l0.length : Int) then (if y322.length < 1172812402961 then (some ((y322 ++ [(⟨(rd_T32 l0 a1).f0, (rd_T32 l0 a1).f1, (rd_T32 l0 a1).f2, (rd_T32 l0 a1).f3, (rd_T32 l0 a1).f4, (rd_T32 l0 a1).f5, (rd_T32 l0 a1).f6, (⟨(rd_T32 l0 a1).f7.f0, (rd_T32 l0 a1).f7.f1, (rd_T32 l0 a1).f7.f2, (rd_T32 l0 a1).f7.f3⟩ : S30), (rd_T32 l0 a1).f8⟩ : S32)]), 0)) else (none)) else (none)) else (none))) else (none)) = some (r1, r2) := by first | (rw [hy319]; with_reducible exact H) | (have H2_ := (Option.bind_some _ _).symm.trans H; rw [hy319]; with_reducible exact H2_) | (have H2_ := (Option.bind_some _ _).symm.trans H; with_reducible exact H2_) | with_reducible exact H | (rw [hy319]; exact H) | exact H
          have Ny319 := Aside0.mk hy319
          clear hy319
          by_cases c7 : y319.length + l0.length < 1172812402961
          · rw [if_pos c7] at H
            have LMc7 := Aside0.mk c7
            clear c7
            obtain ⟨y322, hy322⟩ : ∃ y_ : List (S32), y_ = (y319 ++ l0) := ⟨_, rfl⟩
            replace H : (if 0 ≤ a1 then (if a1 < (l0.length : Int) then (if y322.length < 1172812402961 then (some ((y322 ++ [(⟨(rd_T32 l0 a1).f0, (rd_T32 l0 a1).f1, (rd_T32 l0 a1).f2, (rd_T32 l0 a1).f3, (rd_T32 l0 a1).f4, (rd_T32 l0 a1).f5, (rd_T32 l0 a1).f6, (⟨(rd_T32 l0 a1).f7.f0, (rd_T32 l0 a1).f7.f1, (rd_T32 l0 a1).f7.f2, (rd_T32 l0 a1).f7.f3⟩ : S30), (rd_T32 l0 a1).f8⟩ : S32)]), 0)) else (none)) else (none)) else (none)) = some (r1, r2) := by first | (rw [hy322]; with_reducible exact H) | (have H2_ := (Option.bind_some _ _).symm.trans H; rw [hy322]; with_reducible exact H2_) | (have H2_ := (Option.bind_some _ _).symm.trans H; with_reducible exact H2_) | with_reducible exact H | (rw [hy322]; exact H) | exact H
            have Ny322 := Aside0.mk hy322
            clear hy322
            by_cases c8 : 0 ≤ a1
            · rw [if_pos c8] at H
              have c8b0 : decide (0 ≤ a1) = true := decide_eq_true c8
              clear c8
              by_cases c9 : a1 < (l0.length : Int)
              · rw [if_pos c9] at H
                have c9b0 : decide (a1 < (l0.length : Int)) = true := decide_eq_true c9
                clear c9
                by_cases c10 : y322.length < 1172812402961
                · rw [if_pos c10] at H
                  have LMc10 := Aside0.mk c10
                  clear c10
                  obtain ⟨y326, hy326⟩ : ∃ y_ : List (S32), y_ = (y322 ++ [(⟨(rd_T32 l0 a1).f0, (rd_T32 l0 a1).f1, (rd_T32 l0 a1).f2, (rd_T32 l0 a1).f3, (rd_T32 l0 a1).f4, (rd_T32 l0 a1).f5, (rd_T32 l0 a1).f6, (⟨(rd_T32 l0 a1).f7.f0, (rd_T32 l0 a1).f7.f1, (rd_T32 l0 a1).f7.f2, (rd_T32 l0 a1).f7.f3⟩ : S30), (rd_T32 l0 a1).f8⟩ : S32)]) := ⟨_, rfl⟩
                  replace H : (some (y326, 0)) = some (r1, r2) := by first | (rw [hy326]; with_reducible exact H) | (have H2_ := (Option.bind_some _ _).symm.trans H; rw [hy326]; with_reducible exact H2_) | (have H2_ := (Option.bind_some _ _).symm.trans H; with_reducible exact H2_) | with_reducible exact H | (rw [hy326]; exact H) | exact H
                  have Ny326 := Aside0.mk hy326
                  clear hy326
                  simp only [Option.some.injEq, Prod.mk.injEq] at H
                  obtain ⟨rfl, rfl⟩ := H
                  go_wp2_with (first | ((with_reducible refine gate_dst (N := 18) rfl ?_); (try (refine gate_guard (by rfl) ?_; dsimp only)); refine Kd.N_lit k32 _ 32 ?hg (N' := 18) ?hd (xs := ([] : List (S32))) (inner := []) (ok := (fun k_ => (P0_ k_ ∨ w.heap.size ≤ k_))) (okp := (fun k_ => (P0_ k_ ∨ w.heap.size ≤ k_))) ?hr ?hp (fun _ hk => hk) ((show ∀ k_, wc.heap.size ≤ k_ → (fun k_ => (P0_ k_ ∨ w.heap.size ≤ k_)) k_ from fun k_ hk => (.inr (Nat.le_trans (below_size (by repeat (first | (with_reducible first | exact HB.out | apply below_alloc | apply pw_below_drewN | apply below_drew1) | exact HB.out))) hk))) _ (Nat.le_refl _)) (Below.refl _ _) (Nat.le_refl _) (by simp) ?_; (case hd => rfl); (case hg => rfl); (case hr => first | (go_simp; done) | (go_simp; rfl)); (case hp => exact (Reps.none _ _)); intro v320 w11 ho12 hb hg_ hnew_; clear hg_ hnew_; (first | rw [← Ny319.out] at ho12 | (simp only [Int.reduceToNat] at ho12; rw [← Ny319.out] at ho12)); have n0_ := Aside0.mk (Kd.V_elder' (by (with_reducible repeat (first | apply Kd.V_alloc | apply Kd.V_drewN | apply Kd.V_drew)); exact HO_0.out) (Kd.N_base ho12) hb); have n1_ := Aside0.mk (Kd.N_lower ho12 (below_size (by repeat (first | (with_reducible first | exact HB.out | apply below_alloc | apply pw_below_drewN | apply below_drew1) | exact HB.out)))); have n2_ := Aside0.mk (below_step (by repeat (first | (with_reducible first | exact HB.out | apply below_alloc | apply pw_below_drewN | apply below_drew1) | exact HB.out)) hb); clear HO_0; clear HB; have HO_0 := n0_; have HO321 := n1_; have HB := n2_; clear n0_ n1_ n2_; clear hb ho12) | ((with_reducible refine gate_builtin (b := .append) (xs := #[.tmp 18, .tmp 19]) rfl ?_); (try (refine gate_guard (by rfl) ?_; dsimp only)); at_builtin; refine Kd.N_append_rows k32 (w0 := w) w.heap.size rfl (.tmp 18) (.tmp 19) 22 32 (.agg #[(.int .i64 0), (.int .i64 0), (.int .i64 0), (.int .i64 0), (.int .i64 0), (.int .i64 0), (.int .u64 0), (.int .i64 0), (.int .i64 0), (.int .i64 0), (.slice none 0 0), (.string ⟨#[]⟩)]) 120 rfl Try.underlying22 info32 rfl (by decide) (by omega) v320 y319 l0 _ _ _ (fun k_ => (P0_ k_ ∨ w.heap.size ≤ k_)) (fun k_ => ((fun k_ => (P0_ k_ ∨ w.heap.size ≤ k_))) k_ ∧ some k_ ≠ (v320 : Value).ownBlock) rfl rfl ?aO ?aR (fun _ hk => hk) ?aF ?aB ?aS ?aL ?_; (case aR => exact (by skip; exact Kd.V_F (Kd.V_mono (ok' := (fun k_ => ((fun k_ => (P0_ k_ ∨ w.heap.size ≤ k_))) k_ ∧ some k_ ≠ (v320 : Value).ownBlock)) (HO_0.out) (fun k_ hk => ⟨hk.1, hk.2⟩)))); (case aB => exact (by repeat (first | (with_reducible first | exact HB.out | apply below_alloc | apply pw_below_drewN | apply below_drew1) | exact HB.out))); (case aF => exact (fun k_ hk => (.inr (Nat.le_trans (below_size (by repeat (first | (with_reducible first | exact HB.out | apply below_alloc | apply pw_below_drewN | apply below_drew1) | exact HB.out))) hk)))); (case aO => exact (by (with_reducible repeat (first | apply Kd.N_alloc | apply Kd.N_drewN | apply Kd.N_drew)); exact HO321.out)); (case aS => exact (below_size (by repeat (first | (with_reducible first | exact HB.out | apply below_alloc | apply pw_below_drewN | apply below_drew1) | exact HB.out)))); (case aL => have := LMc7.out; omega); intro v323 w13 ho hb hg hat; rw [← Ny322.out] at ho; have n0_ := Aside0.mk (Kd.V_afterv (ok := (fun k_ => (P0_ k_ ∨ w.heap.size ≤ k_))) (by (with_reducible repeat (first | apply Kd.V_alloc | apply Kd.V_drewN | apply Kd.V_drew)); exact HO_0.out) hg hat); have n1_ := Aside0.mk (hb); have n2_ := Aside0.mk (ho); clear HO_0; clear HB; clear HO321; have HO_0 := n0_; have HB := n1_; have HO324 := n2_; clear n0_ n1_ n2_; clear ho hb hg hat; have p325 : 0 ≤ (a1 : Int) := of_decide_eq_true (by first | (with_reducible assumption) | assumption); have q325 : a1 < (l0.length : Int) := of_decide_eq_true (by first | (with_reducible assumption) | assumption); obtain ⟨ad325, A325_10, c325_10, e325, hx325_0, hx325_1, hx325_2, hx325_3, hx325_4, hx325_5, hx325_6, hx325_7, hx325_8, hx325_9, hx325_10, hx325_11, hl325_10, hi325_10⟩ := at_T32 (Kd.V_reads' HO_0.out).2.2 a1 p325 q325; cases e325; obtain ⟨ce325, hce325, hMe325, hcc325⟩ := Kd.V_get HO_0.out z32 a1 p325 (by first | exact q325 | exact of_decide_eq_true (by first | (with_reducible assumption) | assumption) | (have e_ := (Kd.V_reads' HO_0.out).1; omega)); obtain ⟨ua325_10, uc325_10, rfl, ul325_10, ge325_10⟩ := k32_openF hMe325; have hv325_10 := hcc325 10 _ rfl; rw [add_field _ _ 10 (by omega)] at hv325_10; replace hv325_10 := Option.some.inj (hv325_10.symm.trans hx325_10); injection hv325_10 with hva_ hvn_ hvc_; rw [hva_] at ge325_10; rw [hvc_] at ul325_10; have HL325_10 := Aside0.mk (show Kd.V k49 49 _ w.heap.size _ _ ((rd_T32 l0 a1).f7.f3) from Kd.V_mk ul325_10 ge325_10); clear hva_ hvn_ hvc_ ge325_10 ul325_10; clear hcc325 hce325; have HR325_10 := Aside0.mk hi325_10; have HC325_10 := Aside0.mk hl325_10; clear hi325_10 hl325_10; replace p325 := eq_true p325; replace q325 := eq_true q325) | ((with_reducible refine gate_builtin (b := .append) (xs := #[.tmp 21, .tmp 26]) rfl ?_); (try (refine gate_guard (by rfl) ?_; dsimp only)); at_builtin; refine Kd.N_append k32 (w0 := w) w.heap.size rfl (.tmp 21) (.tmp 26) 22 32 (.agg #[(.int .i64 0), (.int .i64 0), (.int .i64 0), (.int .i64 0), (.int .i64 0), (.int .i64 0), (.int .u64 0), (.int .i64 0), (.int .i64 0), (.int .i64 0), (.slice none 0 0), (.string ⟨#[]⟩)]) 120 rfl Try.underlying22 info32 rfl (by decide) (by omega) v323 y322 (⟨(rd_T32 l0 a1).f0, (rd_T32 l0 a1).f1, (rd_T32 l0 a1).f2, (rd_T32 l0 a1).f3, (rd_T32 l0 a1).f4, (rd_T32 l0 a1).f5, (rd_T32 l0 a1).f6, (⟨(rd_T32 l0 a1).f7.f0, (rd_T32 l0 a1).f7.f1, (rd_T32 l0 a1).f7.f2, (rd_T32 l0 a1).f7.f3⟩ : S30), (rd_T32 l0 a1).f8⟩ : S32) [.int .i64 ((rd_T32 l0 a1).f0), .int .i64 ((rd_T32 l0 a1).f1), .int .i64 ((rd_T32 l0 a1).f2), .int .i64 ((rd_T32 l0 a1).f3), .int .i64 ((rd_T32 l0 a1).f4), .int .i64 ((rd_T32 l0 a1).f5), .int .u64 ((rd_T32 l0 a1).f6), .int .i64 ((rd_T32 l0 a1).f7.f0), .int .i64 ((rd_T32 l0 a1).f7.f1), .int .i64 ((rd_T32 l0 a1).f7.f2), .slice A325_10 ((rd_T32 l0 a1).f7.f3).length c325_10, .string ((rd_T32 l0 a1).f8)] (fun k_ => (P0_ k_ ∨ w.heap.size ≤ k_)) (fun k_ => ((fun k_ => (P0_ k_ ∨ w.heap.size ≤ k_))) k_ ∧ some k_ ≠ (v323 : Value).ownBlock) rfl rfl ?aP (fun _ hk => hk) ?aF ?aO ?aB ?aS ?aL ?_; (case aP => exact (k32_mkF _ _ (⟨(rd_T32 l0 a1).f0, (rd_T32 l0 a1).f1, (rd_T32 l0 a1).f2, (rd_T32 l0 a1).f3, (rd_T32 l0 a1).f4, (rd_T32 l0 a1).f5, (rd_T32 l0 a1).f6, (⟨(rd_T32 l0 a1).f7.f0, (rd_T32 l0 a1).f7.f1, (rd_T32 l0 a1).f7.f2, (rd_T32 l0 a1).f7.f3⟩ : S30), (rd_T32 l0 a1).f8⟩ : S32) (Kd.V_reads' (Kd.V_mono (ok' := (fun k_ => ((fun k_ => (P0_ k_ ∨ w.heap.size ≤ k_))) k_ ∧ some k_ ≠ (v323 : Value).ownBlock)) (HL325_10.out) (fun k_ hk => ⟨hk.1, hk.2⟩))).2.1 (Kd.V_F (Kd.V_mono (ok' := (fun k_ => ((fun k_ => (P0_ k_ ∨ w.heap.size ≤ k_))) k_ ∧ some k_ ≠ (v323 : Value).ownBlock)) (HL325_10.out) (fun k_ hk => ⟨hk.1, hk.2⟩))))); (case aB => exact (by repeat (first | (with_reducible first | exact HB.out | apply below_alloc | apply pw_below_drewN | apply below_drew1) | exact HB.out))); (case aF => exact (fun k_ hk => (.inr (Nat.le_trans (below_size (by repeat (first | (with_reducible first | exact HB.out | apply below_alloc | apply pw_below_drewN | apply below_drew1) | exact HB.out))) hk)))); (case aO => exact (by (with_reducible repeat (first | apply Kd.N_alloc | apply Kd.N_drewN | apply Kd.N_drew)); exact HO324.out)); (case aS => exact (below_size (by repeat (first | (with_reducible first | exact HB.out | apply below_alloc | apply pw_below_drewN | apply below_drew1) | exact HB.out)))); (case aL => have := LMc10.out; omega); intro v327 w14 ho hb hg hat; rw [← Ny326.out] at ho; have n0_ := Aside0.mk (Kd.V_afterv (ok := (fun k_ => (P0_ k_ ∨ w.heap.size ≤ k_))) (by (with_reducible repeat (first | apply Kd.V_alloc | apply Kd.V_drewN | apply Kd.V_drew)); exact HO_0.out) hg hat); have n1_ := Aside0.mk (Kd.V_afterv (ok := (fun k_ => (P0_ k_ ∨ w.heap.size ≤ k_))) (by (with_reducible repeat (first | apply Kd.V_alloc | apply Kd.V_drewN | apply Kd.V_drew)); exact HL325_10.out) hg hat); have n2_ := Aside0.mk (hb); have n3_ := Aside0.mk (ho); clear HO_0; clear HL325_10; clear HB; clear HO324; have HO_0 := n0_; have HL325_10 := n1_; have HB := n2_; have HO328 := n3_; clear n0_ n1_ n2_ n3_; clear ho hb hg hat))
                  go_ret2
                  exact ⟨_, by first | rfl | (simp [errW_none, errW_some] <;> rfl) | (simp [*, errW_none, errW_some] <;> rfl), by (with_reducible repeat (first | apply Kd.N_alloc | apply Kd.N_drewN | apply Kd.N_drew)); exact HO328.out, by repeat (first | (with_reducible first | exact HB.out | apply below_alloc | apply pw_below_drewN | apply below_drew1) | exact HB.out)⟩
                · rw [if_neg c10] at H
                  exact absurd H (by simp)
              · rw [if_neg c9] at H
                exact absurd H (by simp)
            · rw [if_neg c8] at H
              exact absurd H (by simp)
          · rw [if_neg c7] at H
            exact absurd H (by simp)

/-! ### skirmishlaw48_NetDuplicates: function 5 -/
def skirmishlaw48_NetDuplicates.f (k : Nat) (l0 : List (S32)) (a1 : Int) : Option (Bool) := (skirmishlaw48_huge.f k l0).bind fun t329 => (if t329 = true then ((skirmishlaw48_awake.f k).bind fun t330 => (some t330)) else ((net_Duplicate.f l0 a1).bind fun bt331 => ((skirmishref48_Duplicate.f k l0 a1).bind fun bt335 => ((skirmishlaw48_same.f k bt331.1 bt335.1).bind fun t339 => (if t339 = true then (if bt331.2 = bt335.2 then ((skirmishlaw48_awake.f k).bind fun t340 => (some t340)) else (some false)) else (some false))))))
theorem skirmishlaw48_NetDuplicates.mono : ∀ a0 a1 k, LeO (skirmishlaw48_NetDuplicates.f k a0 a1) (skirmishlaw48_NetDuplicates.f (k + 1) a0 a1) := by
  intro a0 a1 k
  unfold skirmishlaw48_NetDuplicates.f
  repeat' first
      | (with_reducible exact skirmishlaw48_awake.mono _)
      | (with_reducible exact skirmishlaw48_huge.mono _ _)
      | (with_reducible exact skirmishlaw48_same.mono _ _ _)
      | (with_reducible exact skirmishref48_Duplicate.mono _ _ _)
      | (with_reducible exact LeO.refl _)
      | (with_reducible exact LeO.none _)
      | (with_reducible refine LeO.ite ?_ ?_)
      | (with_reducible refine LeO.bind ?_ (fun _ => ?_))
      | exact skirmishlaw48_awake.mono _
      | exact skirmishlaw48_huge.mono _ _
      | exact skirmishlaw48_same.mono _ _ _
      | exact skirmishref48_Duplicate.mono _ _ _
      | exact LeO.none _
      | refine LeO.ite ?_ ?_
      | refine LeO.bind ?_ (fun _ => ?_)
set_option maxHeartbeats 8000000 in
set_option maxRecDepth 100000 in
theorem skirmishlaw48_NetDuplicates.calls (k : Nat) (A0 : Option Addr) (c0 : Nat) (l0 : List (S32)) (a1 : Int) (r : Bool) (hr : r = true) (w : World) (hr0 : Kd.C k32 w A0 l0.length l0) (hc0 : l0.length ≤ c0) (h : skirmishlaw48_NetDuplicates.f k l0 a1 = some r) :
    Calls Try.prog 5 #[.slice A0 l0.length c0, .int .i64 a1] w fun e w' => e = .returned (.bool r) ∧ Below w.heap.size w w' := by
  have Hr := Aside0.mk hr
  clear hr
  have HR0 := Aside0.mk hr0
  have HC0 := Aside0.mk hc0
  clear hr0 hc0
  have HB := Aside0.mk (Below.refl w.heap.size w)
  have H : ((skirmishlaw48_huge.f k l0).bind fun t329 => (if t329 = true then ((skirmishlaw48_awake.f k).bind fun t330 => (some t330)) else ((net_Duplicate.f l0 a1).bind fun bt331 => ((skirmishref48_Duplicate.f k l0 a1).bind fun bt335 => ((skirmishlaw48_same.f k bt331.1 bt335.1).bind fun t339 => (if t339 = true then (if bt331.2 = bt335.2 then ((skirmishlaw48_awake.f k).bind fun t340 => (some t340)) else (some false)) else (some false))))))) = some r := h
  clear h
  replace H := Option.bind_eq_some_iff.mp H
  obtain ⟨t329, A30, H⟩ := H
  replace H : (if t329 = true then ((skirmishlaw48_awake.f k).bind fun t330 => (some t330)) else ((net_Duplicate.f l0 a1).bind fun bt331 => ((skirmishref48_Duplicate.f k l0 a1).bind fun bt335 => ((skirmishlaw48_same.f k bt331.1 bt335.1).bind fun t339 => (if t339 = true then (if bt331.2 = bt335.2 then ((skirmishlaw48_awake.f k).bind fun t340 => (some t340)) else (some false)) else (some false)))))) = some r := H
  have A3 := Aside0.mk A30
  clear A30
  by_cases c4 : t329 = true
  · subst c4
    have H1 : ((skirmishlaw48_awake.f k).bind fun t330 => (some t330)) = some r := by rw [if_pos rfl] at H; exact H
    clear H
    have H := H1
    clear H1
    replace H := Option.bind_eq_some_iff.mp H
    obtain ⟨t330, A50, H⟩ := H
    replace H : (some t330) = some r := H
    have A5 := Aside0.mk A50
    clear A50
    obtain rfl := Option.some.inj H
    go_enter Try.func5, Try.ntmps5
    go_wp2_with (first | ((with_reducible refine gate_callee (f := 7) rfl ?_); refine goesL_ (some 10) rfl rfl Try.func7 (by kernel_rfl) rfl #[.slice A0 l0.length c0] rfl (by (try simp only [List.map_toArray, List.map_cons, List.map_nil]); first | done | rfl | (simp only [List.length_drop, List.length_take]; rfl)) ?_; (with_reducible refine (skirmishlaw48_huge.calls k _ _ l0 true _ ?side1 ?side2 A3.out).mono ?_); (case side1 => repeat (first | exact HR0.out | (with_reducible refine Kd.C_alloc ?_ _) | (with_reducible refine Kd.C_drewN ?_ _) | (with_reducible refine Kd.C_drew ?_))); (case side2 => exact HC0.out); rintro e w6 ⟨rfl, hb⟩; refine ⟨_, rfl, ?_⟩; have n0_ := Aside0.mk (below_step (by repeat (first | (with_reducible first | exact HB.out | apply below_alloc | apply pw_below_drewN | apply below_drew1) | exact HB.out)) hb); clear HB; have HB := n0_; clear n0_; (try clear hb); (try clear hb2); (try clear hk); (try clear hi)) | ((with_reducible refine gate_callee (f := 8) rfl ?_); refine goesL_ (some 11) rfl rfl Try.func8 (by kernel_rfl) rfl #[] rfl (by (try simp only [List.map_toArray, List.map_cons, List.map_nil]); first | done | rfl | (simp only [List.length_drop, List.length_take]; rfl)) ?_; (with_reducible refine (skirmishlaw48_awake.calls k t330 Hr.out _ A5.out).mono ?_); rintro e w7 ⟨rfl, hb⟩; refine ⟨_, rfl, ?_⟩; have n0_ := Aside0.mk (below_step (by repeat (first | (with_reducible first | exact HB.out | apply below_alloc | apply pw_below_drewN | apply below_drew1) | exact HB.out)) hb); clear HB; have HB := n0_; clear n0_; (try clear hb); (try clear hb2); (try clear hk); (try clear hi)))
    go_ret
    exact ⟨by first | rfl | (simp [errW_none, errW_some] <;> rfl) | (simp [*, errW_none, errW_some] <;> rfl), by repeat (first | (with_reducible first | exact HB.out | apply below_alloc | apply pw_below_drewN | apply below_drew1) | exact HB.out)⟩
  · replace c4 := Bool.eq_false_iff.mpr c4
    subst c4
    have H1 : ((net_Duplicate.f l0 a1).bind fun bt331 => ((skirmishref48_Duplicate.f k l0 a1).bind fun bt335 => ((skirmishlaw48_same.f k bt331.1 bt335.1).bind fun t339 => (if t339 = true then (if bt331.2 = bt335.2 then ((skirmishlaw48_awake.f k).bind fun t340 => (some t340)) else (some false)) else (some false))))) = some r := by rw [if_neg (show ¬ (false = true) by decide)] at H; exact H
    clear H
    have H := H1
    clear H1
    replace H := Option.bind_eq_some_iff.mp H
    obtain ⟨⟨t331, t334⟩, A80, H⟩ := H
    replace H : ((skirmishref48_Duplicate.f k l0 a1).bind fun bt335 => ((skirmishlaw48_same.f k t331 bt335.1).bind fun t339 => (if t339 = true then (if t334 = bt335.2 then ((skirmishlaw48_awake.f k).bind fun t340 => (some t340)) else (some false)) else (some false)))) = some r := H
    have A8 := Aside0.mk A80
    clear A80
    replace H := Option.bind_eq_some_iff.mp H
    obtain ⟨⟨t335, t338⟩, A90, H⟩ := H
    replace H : ((skirmishlaw48_same.f k t331 t335).bind fun t339 => (if t339 = true then (if t334 = t338 then ((skirmishlaw48_awake.f k).bind fun t340 => (some t340)) else (some false)) else (some false))) = some r := H
    have A9 := Aside0.mk A90
    clear A90
    replace H := Option.bind_eq_some_iff.mp H
    obtain ⟨t339, A100, H⟩ := H
    replace H : (if t339 = true then (if t334 = t338 then ((skirmishlaw48_awake.f k).bind fun t340 => (some t340)) else (some false)) else (some false)) = some r := H
    have A10 := Aside0.mk A100
    clear A100
    by_cases c11 : t339 = true
    · subst c11
      have H1 : (if t334 = t338 then ((skirmishlaw48_awake.f k).bind fun t340 => (some t340)) else (some false)) = some r := by rw [if_pos rfl] at H; exact H
      clear H
      have H := H1
      clear H1
      by_cases c12 : t334 = t338
      · rw [if_pos c12] at H
        have c12b0 : (t334 == t338) = true := beq_iff_eq.mpr c12
        have c12b1 : (t334 != t338) = false := bne_eq_false_iff_eq.mpr c12
        clear c12
        replace H := Option.bind_eq_some_iff.mp H
        obtain ⟨t340, A130, H⟩ := H
        replace H : (some t340) = some r := H
        have A13 := Aside0.mk A130
        clear A130
        obtain rfl := Option.some.inj H
        go_enter Try.func5, Try.ntmps5
        go_wp2_with (first | ((with_reducible refine gate_callee (f := 7) rfl ?_); refine goesL_ (some 10) rfl rfl Try.func7 (by kernel_rfl) rfl #[.slice A0 l0.length c0] rfl (by (try simp only [List.map_toArray, List.map_cons, List.map_nil]); first | done | rfl | (simp only [List.length_drop, List.length_take]; rfl)) ?_; (with_reducible refine (skirmishlaw48_huge.calls k _ _ l0 false _ ?side1 ?side2 A3.out).mono ?_); (case side1 => repeat (first | exact HR0.out | (with_reducible refine Kd.C_alloc ?_ _) | (with_reducible refine Kd.C_drewN ?_ _) | (with_reducible refine Kd.C_drew ?_))); (case side2 => exact HC0.out); rintro e w14 ⟨rfl, hb⟩; refine ⟨_, rfl, ?_⟩; have n0_ := Aside0.mk (below_step (by repeat (first | (with_reducible first | exact HB.out | apply below_alloc | apply pw_below_drewN | apply below_drew1) | exact HB.out)) hb); clear HB; have HB := n0_; clear n0_; (try clear hb); (try clear hb2); (try clear hk); (try clear hi)) | ((with_reducible refine gate_callee (f := 16) rfl ?_); refine goesL_ (some 15) rfl rfl Try.func16 (by kernel_rfl) rfl #[.slice A0 l0.length c0, .int .i64 a1] rfl (by (try simp only [List.map_toArray, List.map_cons, List.map_nil]); first | done | rfl | (simp only [List.length_drop, List.length_take]; rfl)) ?_; (with_reducible refine (net_Duplicate.calls (fun k_ => k_ < w.heap.size) _ _ l0 a1 t331 t334 _ ?side1 A8.out).mono ?_); (case side1 => exact Kd.V_mk HC0.out (Kd.F_below (Kd.C_F k32_heap HR0.out) (by repeat (first | (with_reducible first | exact HB.out | apply below_alloc | apply pw_below_drewN | apply below_drew1) | exact HB.out)))); rintro e w15 ⟨v332, rfl, ho0, hb⟩; refine ⟨_, rfl, ?_⟩; have n0_ := Aside0.mk (Kd.N_lower (Kd.N_mono (ok' := fun k_ => True) ho0 (fun k_ hk_ => trivial)) (below_size (by repeat (first | (with_reducible first | exact HB.out | apply below_alloc | apply pw_below_drewN | apply below_drew1) | exact HB.out)))); have n1_ := Aside0.mk (below_step (by repeat (first | (with_reducible first | exact HB.out | apply below_alloc | apply pw_below_drewN | apply below_drew1) | exact HB.out)) hb); clear HB; have HO333 := n0_; have HB := n1_; clear n0_ n1_; (try clear hb); (try clear hb2); (try clear hk); (try clear hi); (try clear ho0)) | ((with_reducible refine gate_callee (f := 17) rfl ?_); refine goesL_ (some 21) rfl rfl Try.func17 (by kernel_rfl) rfl #[.slice A0 l0.length c0, .int .i64 a1] rfl (by (try simp only [List.map_toArray, List.map_cons, List.map_nil]); first | done | rfl | (simp only [List.length_drop, List.length_take]; rfl)) ?_; (with_reducible refine (skirmishref48_Duplicate.calls k (fun k_ => k_ < w.heap.size) _ _ l0 a1 t335 t338 _ ?side1 A9.out).mono ?_); (case side1 => exact Kd.V_mk HC0.out (Kd.F_below (Kd.C_F k32_heap HR0.out) (by repeat (first | (with_reducible first | exact HB.out | apply below_alloc | apply pw_below_drewN | apply below_drew1) | exact HB.out)))); rintro e w16 ⟨v336, rfl, ho0, hb⟩; refine ⟨_, rfl, ?_⟩; have n0_ := Aside0.mk (Kd.N_elder' (by (with_reducible repeat (first | apply Kd.N_alloc | apply Kd.N_drewN | apply Kd.N_drew)); exact HO333.out) (Kd.N_base ho0) hb); have n1_ := Aside0.mk (Kd.N_lower (Kd.N_mono (ok' := fun k_ => some k_ ≠ (v332 : Value).ownBlock) ho0 (fun k_ hk_ => Or.elim hk_ (fun hs_ => fun e_ => Nat.not_le.2 hs_ (Kd.N_base HO333.out k_ e_.symm)) (fun hn_ => (Kd.fresh' (Kd.N_lt (by (with_reducible repeat (first | apply Kd.N_alloc | apply Kd.N_drewN | apply Kd.N_drew)); exact HO333.out)) k_ hn_)))) (below_size (by repeat (first | (with_reducible first | exact HB.out | apply below_alloc | apply pw_below_drewN | apply below_drew1) | exact HB.out)))); have n2_ := Aside0.mk (below_step (by repeat (first | (with_reducible first | exact HB.out | apply below_alloc | apply pw_below_drewN | apply below_drew1) | exact HB.out)) hb); clear HO333; clear HB; have HO333 := n0_; have HO337 := n1_; have HB := n2_; clear n0_ n1_ n2_; (try clear hb); (try clear hb2); (try clear hk); (try clear hi); (try clear ho0); obtain ⟨Ao17, co17, eo17⟩ := Kd.N_slice HO333.out; subst eo17; obtain ⟨Ao18, co18, eo18⟩ := Kd.N_slice HO337.out; subst eo18) | ((with_reducible refine gate_callee (f := 9) rfl ?_); refine goesL_ (some 26) rfl rfl Try.func9 (by kernel_rfl) rfl #[.slice Ao17 t331.length co17, .slice Ao18 t335.length co18] rfl (by (try simp only [List.map_toArray, List.map_cons, List.map_nil]); first | done | rfl | (simp only [List.length_drop, List.length_take]; rfl)) ?_; (with_reducible refine (skirmishlaw48_same.calls k _ _ t331 _ _ t335 true _ ?side1 ?side2 ?side3 ?side4 A10.out).mono ?_); (case side1 => repeat (first | exact (Kd.N_reads' HO333.out).2.2 | (with_reducible refine Kd.C_alloc ?_ _) | (with_reducible refine Kd.C_drewN ?_ _) | (with_reducible refine Kd.C_drew ?_))); (case side2 => exact (Kd.N_reads' HO333.out).2.1); (case side3 => repeat (first | exact (Kd.N_reads' HO337.out).2.2 | (with_reducible refine Kd.C_alloc ?_ _) | (with_reducible refine Kd.C_drewN ?_ _) | (with_reducible refine Kd.C_drew ?_))); (case side4 => exact (Kd.N_reads' HO337.out).2.1); rintro e w19 ⟨rfl, hb⟩; refine ⟨_, rfl, ?_⟩; have n0_ := Aside0.mk (Kd.N_below (by (with_reducible repeat (first | apply Kd.N_alloc | apply Kd.N_drewN | apply Kd.N_drew)); exact HO333.out) hb); have n1_ := Aside0.mk (Kd.N_below (by (with_reducible repeat (first | apply Kd.N_alloc | apply Kd.N_drewN | apply Kd.N_drew)); exact HO337.out) hb); have n2_ := Aside0.mk (below_step (by repeat (first | (with_reducible first | exact HB.out | apply below_alloc | apply pw_below_drewN | apply below_drew1) | exact HB.out)) hb); clear HO333; clear HO337; clear HB; have HO333 := n0_; have HO337 := n1_; have HB := n2_; clear n0_ n1_ n2_; (try clear hb); (try clear hb2); (try clear hk); (try clear hi)) | (go_at_call 8; (with_reducible refine (skirmishlaw48_awake.calls k t340 Hr.out _ A13.out).mono ?_); rintro e w20 ⟨rfl, hb⟩; have n0_ := Aside0.mk (Kd.N_below (by (with_reducible repeat (first | apply Kd.N_alloc | apply Kd.N_drewN | apply Kd.N_drew)); exact HO333.out) hb); have n1_ := Aside0.mk (Kd.N_below (by (with_reducible repeat (first | apply Kd.N_alloc | apply Kd.N_drewN | apply Kd.N_drew)); exact HO337.out) hb); have n2_ := Aside0.mk (below_step (by repeat (first | (with_reducible first | exact HB.out | apply below_alloc | apply pw_below_drewN | apply below_drew1) | exact HB.out)) hb); clear HO333; clear HO337; clear HB; have HO333 := n0_; have HO337 := n1_; have HB := n2_; clear n0_ n1_ n2_; (try clear hb); (try clear hb2); (try clear hk); (try clear hi)))
        go_ret
        exact ⟨by first | rfl | (simp [errW_none, errW_some] <;> rfl) | (simp [*, errW_none, errW_some] <;> rfl), by repeat (first | (with_reducible first | exact HB.out | apply below_alloc | apply pw_below_drewN | apply below_drew1) | exact HB.out)⟩
      · rw [if_neg c12] at H
        exact absurd ((Option.some.inj H).trans Hr.out) (by simp)
    · replace c11 := Bool.eq_false_iff.mpr c11
      subst c11
      have H1 : (some false) = some r := by rw [if_neg (show ¬ (false = true) by decide)] at H; exact H
      exact absurd ((Option.some.inj H1).trans Hr.out) (by simp)


end Go.Proofs.Ytcpnmlmghjhelaa.F
