/- rng.Below returns the remainder of the first accepted value of Next, for every state and every number. -/
import Derived.Test.YtfnndfejmmajfaaRngLib
namespace Go.Proofs.Ytfnndfejmmajfaa.Pure
open Go.RowKit Go.Proofs.Ytfnndfejmmajfaa.F Go.Proofs.YtfnndfejmmajfaaW.PrintWords Go.Proofs.YtfnndfejmmajfaaW.PrintLast

theorem fair_l0 (a n most : Int) (h1 : 1 ≤ n) (h2 : n ≤ 9223372036854775807) (hmost : ∀ v, 0 ≤ v → v < 18446744073709551616 → (v > most ↔ ¬ acc n v)) (i : Nat) (hi : acc n (nv (st a i))) (hj : ∀ j, j < i → ¬ acc n (nv (st a j))) :
    ∀ (d j : Nat), j + d = i → j ≤ 200 → Ev (fun k => skirmishlaw03_RngBelowFair.l0 k n n most (nv (st a i) % n) (st a (i + 1)) 0 (nv (st a j)) (st a (j + 1)) (j : Int)) true := by
  have b0 := Int.emod_nonneg (nv (st a i)) (show n ≠ 0 by omega)
  have b1 := Int.emod_lt_of_pos (nv (st a i)) (show 0 < n by omega)
  have e1 : IntKind.u64.wrap (nv (st a i) % n) = Int.tmod (nv (st a i)) n := by rw [w64, Int.tmod_eq_emod_of_nonneg (nv_range _).1]; omega
  have hyes := hmost (nv (st a i)) (nv_range _).1 (nv_range _).2
  intro d
  induction d with
  | zero =>
    intro j hd hle
    obtain rfl : j = i := by omega
    have hno : ¬ nv (st a j) > most := fun h => (hyes.1 h) hi
    refine Ev.step (f := fun k => (skirmishlaw03_awake.f k).bind fun t => some t) (fun k => ?_) (Ev.bind awake_ev (Ev.now true))
    simp only [skirmishlaw03_RngBelowFair.l0]
    by_cases hlt : (j : Int) < 200
    · rw [if_pos hlt, if_neg hno, if_pos trivial, if_pos (by omega), if_pos (by omega), if_neg (by omega), if_pos e1, if_pos trivial]
    · rw [if_neg hlt, if_pos trivial, if_pos (by omega), if_pos (by omega), if_neg hno, if_neg (by omega), if_pos e1, if_pos trivial]
  | succ d ih =>
    intro j hd hle
    have hv : nv (st a j) > most := (hmost _ (nv_range _).1 (nv_range _).2).2 (hj j (by omega))
    by_cases hlt : (j : Int) < 200
    · refine Ev.step (fun k => ?_) (ih (j + 1) (by omega) (by omega))
      simp only [skirmishlaw03_RngBelowFair.l0]
      rw [if_pos hlt, if_pos hv, next_eq]
      simp only [Option.bind_some]
      rw [wr _ (by omega) (by omega)]
      rfl
    · refine Ev.step (f := fun k => (skirmishlaw03_awake.f k).bind fun t => some t) (fun k => ?_) (Ev.bind awake_ev (Ev.now true))
      simp only [skirmishlaw03_RngBelowFair.l0]
      rw [if_neg hlt, if_pos trivial, if_pos (by omega), if_pos (by omega), if_pos hv]

theorem most_ok (n : Int) (h1 : 1 ≤ n) : (18446744073709551615 : Int) % n = if (18446744073709551616 : Int) % n = 0 then n - 1 else (18446744073709551616 : Int) % n - 1 := by
  have hb := mod_b n
  have a0 := Int.emod_nonneg (18446744073709551615 : Int) (show n ≠ 0 by omega)
  have a1 := Int.emod_lt_of_pos (18446744073709551615 : Int) (show 0 < n by omega)
  by_cases e : (18446744073709551615 : Int) % n = n - 1
  · rw [e, Int.sub_add_cancel, Int.emod_self] at hb
    rw [if_pos hb.symm, e]
  · rw [Int.emod_eq_of_lt (by omega) (by omega)] at hb
    rw [if_neg (by omega)]
    omega

theorem RngBelowFair : skirmishlaw03_RngBelowFair.Pure := by
  intro a0 a1 _ w1
  have hb := bounds_i64 w1
  refine Ev.rounds (g := fun k => skirmishlaw03_RngBelowFair.f k a0 a1) ?_
  unfold skirmishlaw03_RngBelowFair.f
  by_cases h : a1 < 1
  · simp only [if_pos h]
    refine Ev.bind (below_none h) ?_
    simp only [if_true]
    exact Ev.bind awake_ev (Ev.now true)
  · have e : IntKind.u64.wrap a1 = a1 := by rw [w64]; omega
    have hm := modb a1 (by omega)
    have hmo := most_ok a1 (by omega)
    have hz : ¬ a1 = 0 := by omega
    simp only [if_neg h, e, if_neg hz]
    obtain ⟨r, i, hi, hj, rfl⟩ := draw_ex a0 a1 (by omega) hb.2
    have go : ∀ most : Int, (∀ v, 0 ≤ v → v < 18446744073709551616 → (v > most ↔ ¬ acc a1 v)) → Ev (fun k => skirmishlaw03_RngBelowFair.j0 k a0 a1 a1 most) true := by
      intro most hmost
      refine Ev.step (f := fun k => (rng_Below.f k a0 a1).bind fun bt152 => ((rng_Next.f a0).bind fun bt155 => (skirmishlaw03_RngBelowFair.l0 k a1 a1 most bt152.1 bt152.2.1 bt152.2.2 bt155.1 bt155.2 0))) (fun k => rfl) ?_
      refine Ev.bind (below_draw (by omega) hb.2 ⟨i, hi, hj, rfl⟩) ?_
      obtain ⟨v, s, hv, ev, es⟩ : ∃ v s, rng_Next.f a0 = some (v, s) ∧ v = nv (st a0 0) ∧ s = st a0 1 := ⟨_, _, next_eq a0, rfl, rfl⟩
      rw [hv]
      simp only [Option.bind_some]
      rw [ev, es]
      exact fair_l0 a0 a1 most (by omega) hb.2 hmost i hi hj i 0 (by omega) (by omega)
    have e2 : IntKind.u64.wrap (a1 - 1) = a1 - 1 := by rw [w64]; omega
    rw [e2]
    by_cases hc : (18446744073709551616 : Int) % a1 = 0
    · rw [if_pos hc] at hmo
      simp only [if_pos hmo]
      refine go _ (fun v h0 h1 => ⟨fun hv => by omega, fun hv => absurd (.inl hc) hv⟩)
    · rw [if_neg hc] at hmo
      have hz2 : ¬ (18446744073709551615 : Int) % a1 = a1 - 1 := by omega
      simp only [if_neg hz2]
      refine go _ (fun v h0 h1 => ?_)
      have e3 : IntKind.u64.wrap (IntKind.u64.wrap (18446744073709551615 - (18446744073709551615 : Int) % a1) - 1) = 18446744073709551615 - (18446744073709551616 : Int) % a1 := by
        rw [w64, w64, hmo]
        omega
      rw [e3]
      unfold acc
      constructor
      · intro hv hh
        rcases hh with hh | hh
        · exact hc hh
        · omega
      · intro hv
        have := fun h => hv (.inr h)
        omega

end Go.Proofs.Ytfnndfejmmajfaa.Pure
