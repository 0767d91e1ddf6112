/- rng.Shuffle returns the permutation, the state and the error of the reference, for every state and every number. -/
import Derived.Test.YtfnndfejmmajfaaRngShuf
namespace Go.Proofs.Ytfnndfejmmajfaa.Pure
open Go.RowKit Go.Proofs.Ytfnndfejmmajfaa.F Go.Proofs.YtfnndfejmmajfaaW.PrintWords Go.Proofs.YtfnndfejmmajfaaW.PrintLast

theorem same_l0 (l : List Int) (hl : l.length ≤ 1000) : ∀ (d j : Nat), j + d = l.length → Ev (fun k => skirmishlaw03_RngShuffles.l0 k l l (j : Int)) true := by
  intro d
  induction d with
  | zero =>
    intro j hj
    refine Ev.step1 awake_ev (fun k hk => ?_)
    simp only [skirmishlaw03_RngShuffles.l0]
    rw [if_neg (by omega), hk]
    rfl
  | succ d ih =>
    intro j hj
    refine Ev.step1 (ih (j + 1) (by omega)) (fun k hk => ?_)
    simp only [skirmishlaw03_RngShuffles.l0]
    rw [if_pos (by omega), if_pos (by omega), if_pos (by omega), if_pos trivial, wr _ (by omega) (by omega)]
    exact hk

theorem RngShuffles : skirmishlaw03_RngShuffles.Pure := by
  intro a0 a1 _ w1
  have hb := bounds_i64 w1
  have h : ∃ (l : List Int) (r : Int × Int), l.length ≤ 1000 ∧ Ev (fun k => rng_Shuffle.f k a0 a1) (l, r) ∧ Ev (fun k => skirmishref03_Shuffle.f k a0 a1) (l, r) := by
    by_cases h0 : a1 < 0
    · refine ⟨[], (0, 1), by simp, ⟨0, fun k _ => ?_⟩, ⟨0, fun k _ => ?_⟩⟩
      · show rng_Shuffle.f k a0 a1 = _; unfold rng_Shuffle.f; rw [if_pos h0]
      · show skirmishref03_Shuffle.f k a0 a1 = _; unfold skirmishref03_Shuffle.f; rw [if_pos h0]
    · by_cases h2 : a1 > 1000
      · refine ⟨[], (0, 2), by simp, ⟨0, fun k _ => ?_⟩, ⟨0, fun k _ => ?_⟩⟩
        · show rng_Shuffle.f k a0 a1 = _; unfold rng_Shuffle.f; rw [if_neg h0, if_pos h2]
        · show skirmishref03_Shuffle.f k a0 a1 = _; unfold skirmishref03_Shuffle.f; rw [if_neg h0, if_pos h2]
      · obtain ⟨n, rfl⟩ := Int.eq_ofNat_of_zero_le (show 0 ≤ a1 by omega)
        obtain ⟨l, s, hw⟩ := whole_ex n a0 (by omega)
        exact ⟨l, (s, 0), by have := shuf_length hw; rw [iot_length] at this; omega, rng_whole (by omega) hw, ref_whole (by omega) hw⟩
  obtain ⟨l, r, hl, h1, h2⟩ := h
  refine Ev.rounds (g := fun k => skirmishlaw03_RngShuffles.f k a0 a1) ?_
  unfold skirmishlaw03_RngShuffles.f
  refine Ev.bind h1 (Ev.bind h2 ?_)
  simp only [if_true]
  refine Ev.step1 (same_l0 l hl l.length 0 (by omega)) (fun k hk => ?_)
  simp only [skirmishlaw03_RngShuffles.j0]
  rw [if_neg (by simp)]
  exact hk

end Go.Proofs.Ytfnndfejmmajfaa.Pure
