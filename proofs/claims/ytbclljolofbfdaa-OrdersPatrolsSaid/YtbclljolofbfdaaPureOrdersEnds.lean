/- Done and Current return what the reference's return: for all lists. -/
import Derived.Test.YtbclljolofbfdaaOrdersLib
import Derived.Test.YtbclljolofbfdaaFxEn
namespace Go.Proofs.Ytbclljolofbfdaa.Pure
open Go.RowKit Go.Proofs.Ytbclljolofbfdaa.F Go.Proofs.Ytbclljolofbfdaa.Opens Go.Proofs.YtbclljolofbfdaaW.PrintWords Go.Proofs.YtbclljolofbfdaaW.PrintLast Go.Proofs.YtbclljolofbfdaaW.PrintMore

/-- The list behind Done. -/
def dn (l : List S28) : List S28 := match l with
  | [] => []
  | o :: r => if o.f0 = 6 then r ++ [o] else r
theorem clone_eq (l : List S28) (hl : l.length ≤ 1000000) : api_Order_39.f l = some l := by
  unfold api_Order_39.f
  simp only [Option.bind_some, List.nil_append, List.length_nil, Nat.zero_add]
  rw [if_pos (by omega)]
theorem rd_head (o : S28) (r : List S28) : rd_T28 (o :: r) 0 = o := rfl
theorem done_eq (l : List S28) (hl : l.length ≤ 1000000) : orders_Done.f l = some (dn l) := by
  unfold orders_Done.f dn
  cases l with
  | nil => rfl
  | cons o r =>
    have h1 : (o :: r).length = r.length + 1 := rfl
    rw [if_neg (by omega), if_pos (by omega), show (o :: r).drop 1 = r from rfl, clone_eq r (by omega), Option.bind_some, if_pos (by omega)]
    by_cases h : o.f0 = 6
    · rw [if_pos (show (rd_T28 (o :: r) 0).f0 = 6 from h), if_pos (by omega)]
      simp only [if_pos h]
      rfl
    · rw [if_neg (show ¬ (rd_T28 (o :: r) 0).f0 = 6 from h)]
      simp only [if_neg h]
theorem ref_done_eq (l : List S28) (hl : l.length ≤ 1000000) : skirmishref20_Done.f l = some (dn l) := by
  unfold skirmishref20_Done.f dn
  cases l with
  | nil => rfl
  | cons o r =>
    have h1 : (o :: r).length = r.length + 1 := rfl
    rw [if_neg (by omega), if_pos (by omega), show (o :: r).drop 1 = r from rfl]
    simp only [Option.bind_some, List.nil_append, List.length_nil, Nat.zero_add]
    rw [if_pos (by omega), if_pos (by omega)]
    by_cases h : o.f0 = 6
    · rw [if_pos (show (rd_T28 (o :: r) 0).f0 = 6 from h), if_pos (by omega)]
      simp only [if_pos h]
      rfl
    · rw [if_neg (show ¬ (rd_T28 (o :: r) 0).f0 = 6 from h)]
      simp only [if_neg h]
theorem current_eq (l : List S28) : ∃ b, orders_Current.f l = some b ∧ skirmishref20_Current.f l = some b := by
  unfold orders_Current.f skirmishref20_Current.f
  by_cases h : (l.length : Int) = 0
  · exact ⟨_, if_pos h, if_pos h⟩
  · exact ⟨_, by rw [if_neg h, if_pos (by omega)], by rw [if_neg h, if_pos (by omega)]⟩
theorem dn_len (l : List S28) : (dn l).length ≤ l.length := by
  unfold dn
  split
  · exact Nat.le_refl _
  · split
    · simp
    · simp
theorem OrdersEnds (l : List S28) (_ : ∀ y ∈ l, G28 y) (hl : l.length ≤ maxLen) : ∃ k, skirmishlaw20_OrdersEnds.f k l = some true := by
  refine Ev.rounds (g := fun k => skirmishlaw20_OrdersEnds.f k l) ?_
  obtain ⟨b, hb, hb2⟩ := small_ev l hl
  unfold skirmishlaw20_OrdersEnds.f
  refine Ev.bind hb ?_
  cases b with
  | false =>
    simp only [Bool.false_eq_true, if_false]
    exact Ev.bind alive_ev (Ev.now true)
  | true =>
    have h1 := (hb2 rfl).1
    obtain ⟨c, hc, hc2⟩ := current_eq l
    simp only [if_true, hc, hc2, done_eq l (by omega), ref_done_eq l (by omega), Option.bind_some]
    refine Ev.bind (same_ev (dn l) (by have := dn_len l; omega)) ?_
    simp only [beq_self_eq_true, Bool.and_self, if_true]
    exact Ev.bind alive_ev (Ev.now true)
end Go.Proofs.Ytbclljolofbfdaa.Pure
