/- rng.Below returns the number, the next state and the error of the reference, for every state and every number; its rounds end. -/
import Derived.Test.YtfnndfejmmajfaaRngLib
namespace Go.Proofs.Ytfnndfejmmajfaa.Pure
open Go.RowKit Go.Proofs.Ytfnndfejmmajfaa.F Go.Proofs.YtfnndfejmmajfaaW.PrintWords Go.Proofs.YtfnndfejmmajfaaW.PrintLast

theorem RngBelow : skirmishlaw03_RngBelow.Pure := by
  intro a0 a1 _ w1
  have hb := bounds_i64 w1
  have h : ∃ r : Int × Int × Int, Ev (fun k => rng_Below.f k a0 a1) r ∧ Ev (fun k => skirmishref03_Below.f k a0 a1) r := by
    by_cases h : a1 < 1
    · exact ⟨_, below_none h, ref_none h⟩
    · obtain ⟨r, hr⟩ := draw_ex a0 a1 (by omega) hb.2
      exact ⟨_, below_draw (by omega) hb.2 hr, ref_draw (by omega) hb.2 hr⟩
  obtain ⟨r, h1, h2⟩ := h
  refine Ev.rounds (g := fun k => skirmishlaw03_RngBelow.f k a0 a1) ?_
  unfold skirmishlaw03_RngBelow.f
  refine Ev.bind h1 (Ev.bind h2 ?_)
  simp only [if_true]
  exact Ev.bind awake_ev (Ev.now true)

end Go.Proofs.Ytfnndfejmmajfaa.Pure
