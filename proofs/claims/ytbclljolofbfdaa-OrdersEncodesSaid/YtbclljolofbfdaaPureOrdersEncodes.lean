/- Encode returns what the reference's Encode returns: for all lists. -/
import Derived.Test.YtbclljolofbfdaaOrdersEnc
import Derived.Test.YtbclljolofbfdaaFxEc
namespace Go.Proofs.Ytbclljolofbfdaa.Pure
open Go.RowKit Go.Proofs.Ytbclljolofbfdaa.F Go.Proofs.Ytbclljolofbfdaa.Opens Go.Proofs.YtbclljolofbfdaaW.PrintWords Go.Proofs.YtbclljolofbfdaaW.PrintLast Go.Proofs.YtbclljolofbfdaaW.PrintMore

theorem OrdersEncodes (l : List S28) (hg : ∀ y ∈ l, G28 y) (hl : l.length ≤ maxLen) : ∃ k, skirmishlaw20_OrdersEncodes.f k l = some true := by
  refine Ev.rounds (g := fun k => skirmishlaw20_OrdersEncodes.f k l) ?_
  obtain ⟨b, hb, hb2⟩ := small_ev l hl
  unfold skirmishlaw20_OrdersEncodes.f
  refine Ev.bind hb ?_
  cases b with
  | false =>
    simp only [Bool.false_eq_true, if_false]
    exact Ev.bind alive_ev (Ev.now true)
  | true =>
    obtain ⟨h1, h2⟩ := hb2 rfl
    have hok : ∀ o ∈ l, okO o 1000 := fun o ho => by
      obtain ⟨i, hi, rfl⟩ := List.mem_iff_getElem.1 ho
      exact okO_of (hg _ ho) (h2 i hi)
    simp only [if_true]
    refine Ev.bind (enc_ev l hok h1) (Ev.bind (renc_ev l hok h1) ?_)
    simp only [if_true]
    exact Ev.bind alive_ev (Ev.now true)
end Go.Proofs.Ytbclljolofbfdaa.Pure
