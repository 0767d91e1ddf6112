/- Valid and Give return what the reference's return: for all lists and orders. -/
import Derived.Test.YtbclljolofbfdaaPureOrdersEnds
import Derived.Test.YtbclljolofbfdaaFx7
import Derived.Test.YtbclljolofbfdaaFx12
namespace Go.Proofs.Ytbclljolofbfdaa.Pure
open Go.RowKit Go.Proofs.Ytbclljolofbfdaa.F Go.Proofs.Ytbclljolofbfdaa.Opens Go.Proofs.YtbclljolofbfdaaW.PrintWords Go.Proofs.YtbclljolofbfdaaW.PrintLast Go.Proofs.YtbclljolofbfdaaW.PrintMore

/-- The list behind Give, and the error. -/
def gv (l : List S28) (a x y t : Int) (s : ByteArray) (q : Bool) : List S28 × Int :=
  if vd a x y t s = true then (if q = true then (if l.length ≥ 8 then ([], 17) else (l ++ [⟨a, ⟨x, y⟩, t, s⟩], 0)) else ([⟨a, ⟨x, y⟩, t, s⟩], 0)) else ([], 1)
theorem give_ev (l : List S28) (hl : l.length ≤ 1000000) (a x y t : Int) (s : ByteArray) (q : Bool) : Ev (fun k => orders_Give.f k l a x y t s q) (gv l a x y t s q) := by
  unfold orders_Give.f gv
  refine Ev.bind (valid_ev a x y t s) ?_
  refine Ev.imp_ (Ev.now _) (fun k hk => ?_)
  rw [← hk]
  generalize vd a x y t s = v
  cases v with
  | false => rfl
  | true =>
    cases q with
    | false => rfl
    | true =>
      simp only [if_true]
      by_cases h : l.length ≥ 8
      · rw [if_pos (by omega), if_pos h]
      · rw [if_neg (by omega), if_neg h, clone_eq l hl]
        simp only [Option.bind_some, List.length_singleton]
        rw [if_pos (by omega)]
theorem ref_give_ev (l : List S28) (hl : l.length ≤ 1000000) (a x y t : Int) (s : ByteArray) (q : Bool) : Ev (fun k => skirmishref20_Give.f k l a x y t s q) (gv l a x y t s q) := by
  unfold skirmishref20_Give.f gv
  refine Ev.bind (ref_valid_ev a x y t s) ?_
  refine Ev.imp_ (Ev.now _) (fun k hk => ?_)
  rw [← hk]
  generalize vd a x y t s = v
  cases v with
  | false => rfl
  | true =>
    cases q with
    | false => rfl
    | true =>
      simp only [if_true]
      by_cases h : l.length ≥ 8
      · rw [if_pos (by omega), if_pos h]
      · rw [if_neg (by omega), if_neg h]
        simp only [Option.bind_some, List.nil_append, List.length_nil, Nat.zero_add]
        rw [if_pos (by omega), if_pos (by omega)]
theorem gv_len (l : List S28) (hl : l.length ≤ 100) (a x y t : Int) (s : ByteArray) (q : Bool) : (gv l a x y t s q).1.length ≤ 1000000 := by
  unfold gv
  split
  · split
    · split
      · simp
      · simp
        omega
    · simp
  · simp
theorem OrdersGives (l : List S28) (_ : ∀ y ∈ l, G28 y) (hl : l.length ≤ maxLen) (o : S28) (_ : G28 o) (q : Bool) : ∃ k, skirmishlaw20_OrdersGives.f k l o.f0 o.f1.f0 o.f1.f1 o.f2 o.f3 q = some true := by
  refine Ev.rounds (g := fun k => skirmishlaw20_OrdersGives.f k l o.f0 o.f1.f0 o.f1.f1 o.f2 o.f3 q) ?_
  obtain ⟨b, hb, hb2⟩ := small_ev l hl
  have hT : Ev (fun k => skirmishlaw20_OrdersGives.j0 k l q true o.f0 o.f1.f0 o.f1.f1 o.f2 o.f3) true := Ev.step2 (Ev.bind alive_ev (Ev.now true)) (fun k hk => by simp only [skirmishlaw20_OrdersGives.j0, if_true]; exact hk)
  unfold skirmishlaw20_OrdersGives.f
  refine Ev.bind hb ?_
  cases b with
  | false =>
    simp only [Bool.false_eq_true, if_false]
    exact hT
  | true =>
    have h1 := (hb2 rfl).1
    simp only [if_true]
    by_cases h2 : (o.f3.size : Int) > 1000
    · rw [decide_eq_true h2]
      exact hT
    · rw [decide_eq_false h2]
      have hs := same_ev (gv l o.f0 o.f1.f0 o.f1.f1 o.f2 o.f3 q).1 (gv_len l h1 _ _ _ _ _ _)
      have hall : Ev (fun k => ((orders_Give.f k l o.f0 o.f1.f0 o.f1.f1 o.f2 o.f3 q).bind fun bt279 => ((skirmishref20_Give.f k l o.f0 o.f1.f0 o.f1.f1 o.f2 o.f3 q).bind fun bt283 => ((orders_Valid.f k o.f0 o.f1.f0 o.f1.f1 o.f2 o.f3).bind fun t287 => ((skirmishref20_Valid.f k o.f0 o.f1.f0 o.f1.f1 o.f2 o.f3).bind fun t288 => (if (t287 == t288) = true then ((skirmishref20_Same.f k bt279.1 bt283.1).bind fun t289 => (if t289 = true then (if bt279.2 = bt283.2 then ((skirmishlaw20_alive.f k).bind fun t290 => (some t290)) else (some false)) else (some false))) else (some false))))))) true := by
        refine Ev.bind (give_ev l (by omega) _ _ _ _ _ _) (Ev.bind (ref_give_ev l (by omega) _ _ _ _ _ _) (Ev.bind (valid_ev _ _ _ _ _) (Ev.bind (ref_valid_ev _ _ _ _ _) ?_)))
        simp only [beq_self_eq_true, if_true]
        refine Ev.bind hs ?_
        simp only [if_true]
        exact Ev.bind alive_ev (Ev.now true)
      exact Ev.step2 hall (fun k hk => by simp only [skirmishlaw20_OrdersGives.j0, Bool.false_eq_true, if_false]; exact hk)
end Go.Proofs.Ytbclljolofbfdaa.Pure
