/- wire.Text, wire.TakeText and wire.TakeCount are the reference's, and what is read is the encoding of the result: for every text of at most 2000 bytes and all numbers. -/
import Derived.Test.YtdjndjgafdfkaaaWireMore
namespace Go.Proofs.Ytdjndjgafdfkaaa.Pure
open Go.RowKit Go.Proofs.Ytdjndjgafdfkaaa.F Go.Proofs.YtdjndjgafdfkaaaW.PrintWords Go.Proofs.YtdjndjgafdfkaaaW.PrintLast Go.Proofs.YtdjndjgafdfkaaaW.PrintMore Go.Proofs.Ytdjndjgafdfkaaa.Plain

theorem WireTexts : skirmishlaw04_WireTexts.Pure := by
  intro a0 a1 a2 _ w1 w2
  have h1 := bounds_i64 w1
  have h2 := bounds_i64 w2
  refine Ev.rounds (g := fun k => skirmishlaw04_WireTexts.f k a0 a1 a2) ?_
  unfold skirmishlaw04_WireTexts.f
  by_cases h : (a0.size : Int) > 2000
  · simp only [if_pos h]
    exact Ev.bind awake_ev (Ev.now true)
  · simp only [if_neg h]
    have hs : a0.size ≤ 1000000 := by omega
    refine Ev.bind (wire_tt a0 hs a1 a2 h2.2) (Ev.bind (ref_tt a0 hs a1 a2 h2.2) (Ev.bind (wire_tc a0 hs a1 a2 h2.2) (Ev.bind (ref_tc a0 hs a1 a2 h2.2) ?_)))
    simp only [if_true]
    refine Ev.bind (wire_text a0 hs) (Ev.bind (ref_text a0 hs) ?_)
    have hne : ((tb a0).toList != (tb a0).toList) = false := by simp
    rw [hne]
    by_cases he : (tt a0 a1 a2).2.2 = 0
    · have e : tt a0 a1 a2 = ((tt a0 a1 a2).1, (tt a0 a1 a2).2.1, 0) := by rw [← he]
      generalize (tt a0 a1 a2).1 = u at e ⊢
      generalize (tt a0 a1 a2).2.1 = y at e ⊢
      rw [he]
      obtain ⟨g0, g1, hsz, hu, hx⟩ := tt_ok e
      refine Ev.step1 (f := fun k => (wire_Text.f k u).bind fun t => if (a0.extract a1.toNat y.toNat).toList = t.toList then ((skirmishlaw04_awake.f k).bind fun t => some t) else some false) (Ev.bind (wire_text u (by omega)) ?_) (fun k hk => ?_)
      · rw [hx]
        simp only [if_true]
        exact Ev.bind awake_ev (Ev.now true)
      · simp only [skirmishlaw04_WireTexts.j0]
        rw [if_neg (by simp), if_pos trivial, if_pos g0, if_pos g1, if_pos hsz]
        exact hk
    · refine Ev.step1 (f := fun k => (skirmishlaw04_awake.f k).bind fun t => some t) (Ev.bind awake_ev (Ev.now true)) (fun k hk => ?_)
      simp only [skirmishlaw04_WireTexts.j0]
      rw [if_neg (by simp), if_neg he]
      exact hk

end Go.Proofs.Ytdjndjgafdfkaaa.Pure
