/- wire.Int and wire.TakeInt are the reference's, and what is read is the encoding of the result: for every int, every position and every text of at most 2000 bytes. -/
import Derived.Test.YtdjndjgafdfkaaaWireMore
namespace Go.Proofs.Ytdjndjgafdfkaaa.Pure
open Go.RowKit Go.Proofs.Ytdjndjgafdfkaaa.F Go.Proofs.YtdjndjgafdfkaaaW.PrintWords Go.Proofs.YtdjndjgafdfkaaaW.PrintLast Go.Proofs.YtdjndjgafdfkaaaW.PrintMore Go.Proofs.Ytdjndjgafdfkaaa.Plain

theorem WireInts : skirmishlaw04_WireInts.Pure := by
  intro a0 a1 a2 w0 _ w2
  have h0 := bounds_i64 w0
  have h2 := bounds_i64 w2
  refine Ev.rounds (g := fun k => skirmishlaw04_WireInts.f k a0 a1 a2) ?_
  unfold skirmishlaw04_WireInts.f
  by_cases h : (a1.size : Int) > 2000
  · simp only [if_pos h]
    exact Ev.bind awake_ev (Ev.now true)
  · simp only [if_neg h]
    have hs : a1.size ≤ 1000000 := by omega
    refine Ev.bind (wire_ti a1 hs a2) (Ev.bind (ref_ti a1 hs a2) ?_)
    simp only [if_true]
    refine Ev.bind (wire_int h0.1 h0.2) (Ev.bind (ref_int h0.1 h0.2) ?_)
    have hne : ((eb (zz a0)).toList != (eb (zz a0)).toList) = false := by simp
    rw [hne]
    by_cases he : (ti a1 a2).2.2 = 0
    · have e : ti a1 a2 = ((ti a1 a2).1, (ti a1 a2).2.1, 0) := by rw [← he]
      generalize (ti a1 a2).1 = u at e ⊢
      generalize (ti a1 a2).2.1 = y at e ⊢
      rw [he]
      obtain ⟨g0, g1, hsz, u0, u1, hx⟩ := ti_ok e
      refine Ev.step1 (f := fun k => (wire_Int.f k u).bind fun t => if (a1.extract a2.toNat y.toNat).toList = t.toList then ((skirmishlaw04_awake.f k).bind fun t => some t) else some false) (Ev.bind (wire_int u0 u1) ?_) (fun k hk => ?_)
      · rw [hx]
        simp only [if_true]
        exact Ev.bind awake_ev (Ev.now true)
      · simp only [skirmishlaw04_WireInts.j0]
        rw [if_neg (by simp), if_pos trivial, if_pos g0, if_pos g1, if_pos hsz]
        exact hk
    · refine Ev.step1 (f := fun k => (skirmishlaw04_awake.f k).bind fun t => some t) (Ev.bind awake_ev (Ev.now true)) (fun k hk => ?_)
      simp only [skirmishlaw04_WireInts.j0]
      rw [if_neg (by simp), if_neg he]
      exact hk

end Go.Proofs.Ytdjndjgafdfkaaa.Pure
