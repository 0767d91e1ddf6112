/- delay.Due returns the turns of the reference: for all numbers. -/
import Derived.Test.YtankidkjkmfefaaDelayLib
namespace Go.Proofs.Ytankidkjkmfefaa.Pure
open Go.RowKit Go.Proofs.Ytankidkjkmfefaa.F Go.Proofs.YtankidkjkmfefaaW.PrintWords Go.Proofs.YtankidkjkmfefaaW.PrintLast Go.Proofs.YtankidkjkmfefaaW.PrintMore

theorem DelayDue : skirmishlaw50_DelayDue.Pure := by
  intro t d s _ _ _
  refine Ev.rounds (g := fun k => skirmishlaw50_DelayDue.f k t d s) ?_
  unfold skirmishlaw50_DelayDue.f
  have hl := due_len t d s
  refine Ev.bind (due_ev t d s) (Ev.bind (ref_due_ev t d s) (Ev.bind (same_ev _ (by omega)) ?_))
  simp only [if_true]
  exact Ev.bind awake_ev (Ev.now true)

end Go.Proofs.Ytankidkjkmfefaa.Pure
