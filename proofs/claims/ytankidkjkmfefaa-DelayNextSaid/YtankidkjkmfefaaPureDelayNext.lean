/- delay.Next returns the delay of the reference: for every delay and all lists of at most 100 lags. -/
import Derived.Test.YtankidkjkmfefaaDelayLib
namespace Go.Proofs.Ytankidkjkmfefaa.Pure
open Go.RowKit Go.Proofs.Ytankidkjkmfefaa.F Go.Proofs.YtankidkjkmfefaaW.PrintWords Go.Proofs.YtankidkjkmfefaaW.PrintLast Go.Proofs.YtankidkjkmfefaaW.PrintMore

theorem DelayNext : skirmishlaw50_DelayNext.Pure := by
  intro d l _ _ _ _
  refine Ev.rounds (g := fun k => skirmishlaw50_DelayNext.f k d l) ?_
  unfold skirmishlaw50_DelayNext.f
  by_cases h : (l.length : Int) > 100
  · simp only [if_pos h]
    exact Ev.now _
  · simp only [if_neg h]
    refine Ev.bind (next_ev d l (by omega)) (Ev.bind (ref_next_ev d l (by omega)) ?_)
    simp only [if_true]
    exact Ev.bind awake_ev (Ev.now true)

end Go.Proofs.Ytankidkjkmfefaa.Pure
