/- Decode returns what the reference's Decode returns, and what it returns has the encoding that it has read: for all texts and offsets. -/
import Derived.Test.YtbclljolofbfdaaOrdersDec
import Derived.Test.YtbclljolofbfdaaFx17
namespace Go.Proofs.Ytbclljolofbfdaa.Pure
open Go.RowKit Go.Proofs.Ytbclljolofbfdaa.F Go.Proofs.YtbclljolofbfdaaW.PrintWords Go.Proofs.YtbclljolofbfdaaW.PrintLast Go.Proofs.YtbclljolofbfdaaW.PrintMore

theorem dec_j0 (s : ByteArray) (a : Int) (L : List S28) (nx e : Int) (h : dc s a = (L, nx, e)) : Ev (fun k => skirmishlaw20_OrdersDecodes.j0 k s a L nx e false) true := by
  by_cases he : e = 0
  · subst he
    obtain ⟨h1, h2, h3, h4, h5, h6⟩ := dc_ok h
    have hall : Ev (fun k => ((orders_Encode.f k L).bind fun t396 => (if 0 ≤ a then (if a ≤ nx then (if nx ≤ (s.size : Int) then (if t396.toList = (s.extract (a : Int).toNat (nx : Int).toNat).toList then ((skirmishlaw20_alive.f k).bind fun t397 => (some t397)) else (some false)) else (none)) else (none)) else (none)))) true := by
      refine Ev.bind (enc_ev L h4 (by omega)) ?_
      simp only [if_pos h1, if_pos h2, if_pos h3, h6, if_true]
      exact Ev.bind alive_ev (Ev.now true)
    exact Ev.step2 hall (fun k hk => by simp only [skirmishlaw20_OrdersDecodes.j0, Bool.false_eq_true, if_false, if_true]; exact hk)
  · refine Ev.step2 (Ev.bind alive_ev (Ev.now true)) (fun k hk => ?_)
    simp only [skirmishlaw20_OrdersDecodes.j0, Bool.false_eq_true, if_false, if_neg he]
    exact hk
theorem OrdersDecodes : skirmishlaw20_OrdersDecodes.Pure := by
  intro s a _ _
  refine Ev.rounds (g := fun k => skirmishlaw20_OrdersDecodes.f k s a) ?_
  unfold skirmishlaw20_OrdersDecodes.f
  by_cases h0 : (s.size : Int) > 5000
  · simp only [if_pos h0]
    exact Ev.bind alive_ev (Ev.now true)
  · simp only [if_neg h0]
    refine Ev.bind (dec_ev s (by omega) a) (Ev.bind (rdec_ev s (by omega) a) ?_)
    have hlen := dc_len s a
    refine Ev.bind (same_ev (dc s a).1 (by omega)) ?_
    simp only [if_true, bne_self_eq_false]
    exact dec_j0 s a _ _ _ rfl
end Go.Proofs.Ytbclljolofbfdaa.Pure
