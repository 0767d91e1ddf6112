/- rng.Next returns the value and the next state of the reference, for every state; the chapter's examples hold. -/
import Derived.Test.YtfnndfejmmajfaaRngLib
namespace Go.Proofs.Ytfnndfejmmajfaa.Pure
open Go.RowKit Go.Proofs.Ytfnndfejmmajfaa.F Go.Proofs.YtfnndfejmmajfaaW.PrintWords Go.Proofs.YtfnndfejmmajfaaW.PrintLast

theorem RngNext : skirmishlaw03_RngNext.Pure := by
  intro a0 _
  refine Ev.rounds (g := fun k => skirmishlaw03_RngNext.f k a0) ?_
  unfold skirmishlaw03_RngNext.f
  obtain ⟨v, s, hv, hr⟩ : ∃ v s, rng_Next.f a0 = some (v, s) ∧ skirmishref03_Next.f a0 = some (v, s) := ⟨_, _, next_eq a0, next_ref a0⟩
  rw [hv, hr]
  simp only [Option.bind_some, if_true]
  exact Ev.bind awake_ev (Ev.now true)

end Go.Proofs.Ytfnndfejmmajfaa.Pure
