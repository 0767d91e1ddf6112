/- Done keeps the patrol orders of a list in a circle and drops the others: for all lists. -/
import Derived.Test.YtbclljolofbfdaaPureOrdersEnds
import Derived.Test.YtbclljolofbfdaaFxP
namespace Go.Proofs.Ytbclljolofbfdaa.Pure
open Go.RowKit Go.Proofs.Ytbclljolofbfdaa.F Go.Proofs.Ytbclljolofbfdaa.Opens Go.Proofs.YtbclljolofbfdaaW.PrintWords Go.Proofs.YtbclljolofbfdaaW.PrintLast Go.Proofs.YtbclljolofbfdaaW.PrintMore

theorem Ev.both {α β γ : Type} {g : Nat → Option α} {f : Nat → Option β} {h : Nat → Option γ} {a : α} {b : β} {c : γ} (hg : Ev g a) (hf : Ev f b) (e : ∀ k, g k = some a → f k = some b → h (k + 1) = some c) : Ev h c := by
  obtain ⟨K, hK⟩ := hg
  obtain ⟨L, hL⟩ := hf
  refine ⟨max K L + 1, fun k hk => ?_⟩
  obtain ⟨k, rfl⟩ : ∃ m, k = m + 1 := ⟨k - 1, by omega⟩
  exact e k (hK k (by omega)) (hL k (by omega))
/-- The patrol orders of a list. -/
def pt : List S28 → List S28
  | [] => []
  | o :: r => if o.f0 = 6 then o :: pt r else pt r
theorem pt_append : ∀ (l r : List S28), pt (l ++ r) = pt l ++ pt r
  | [], _ => rfl
  | o :: l, r => by
    show (if o.f0 = 6 then o :: pt (l ++ r) else pt (l ++ r)) = (if o.f0 = 6 then o :: pt l else pt l) ++ pt r
    rw [pt_append l r]
    split <;> rfl
theorem pt_mem : ∀ (l : List S28), ∀ o ∈ pt l, o.f0 = 6
  | [], o, ho => by cases ho
  | p :: l, o, ho => by
    unfold pt at ho
    by_cases h : p.f0 = 6
    · rw [if_pos h] at ho
      rcases List.mem_cons.1 ho with rfl | ho
      · exact h
      · exact pt_mem l o ho
    · rw [if_neg h] at ho
      exact pt_mem l o ho
theorem pt_len : ∀ (l : List S28), (pt l).length ≤ l.length
  | [] => Nat.le_refl _
  | p :: l => by
    have := pt_len l
    unfold pt
    split
    · simp only [List.length_cons]
      omega
    · simp only [List.length_cons]
      omega
theorem pt_one (o : S28) : pt [o] = if o.f0 = 6 then [o] else [] := rfl
theorem take_next (l : List S28) (j : Nat) (h : j < l.length) : pt (l.take (j + 1)) = pt (l.take j) ++ (if l[j].f0 = 6 then [l[j]] else []) := by
  rw [List.take_add_one, List.getElem?_eq_getElem h, pt_append]
  rfl
theorem dn_cons (o : S28) (r : List S28) : dn (o :: r) = r ++ (if o.f0 = 6 then [o] else []) := by
  show (if o.f0 = 6 then r ++ [o] else r) = _
  split
  · rfl
  · exact (List.append_nil r).symm
theorem pat_l2 (P : List S28) (hP : P.length ≤ 100) (h6 : ∀ o ∈ P, o.f0 = 6) : ∀ (n j : Nat), j + n = P.length → Ev (fun k => skirmishlaw20_OrdersPatrols.l2 k P (P.drop j ++ P.take j) (P.length : Int) (j : Int)) true := by
  intro n
  induction n with
  | zero =>
    intro j hj
    rw [List.drop_eq_nil_of_le (by omega), List.take_of_length_le (by omega), List.nil_append]
    refine Ev.both (same_ev P (by omega)) alive_ev (fun k h1 h2 => ?_)
    have e0 : skirmishref20_Same.f k P P = some true := h1
    have e1 : skirmishlaw20_alive.f k = some true := h2
    simp only [skirmishlaw20_OrdersPatrols.l2]
    rw [if_neg (by omega), e0, Option.bind_some, if_pos rfl, e1]
    rfl
  | succ n ih =>
    intro j hj
    have hjl : j < P.length := by omega
    have hd : orders_Done.f (P.drop j ++ P.take j) = some (P.drop (j + 1) ++ P.take (j + 1)) := by
      rw [done_eq _ (by rw [List.length_append, List.length_drop, List.length_take]; omega), List.drop_eq_getElem_cons hjl]
      show some (dn (P[j] :: (P.drop (j + 1) ++ P.take j))) = _
      rw [dn_cons, if_pos (h6 _ (List.getElem_mem hjl)), List.take_add_one, List.getElem?_eq_getElem hjl, List.append_assoc]
      rfl
    refine Ev.step2 (ih (j + 1) (by omega)) (fun k hk => ?_)
    simp only [skirmishlaw20_OrdersPatrols.l2]
    rw [if_pos (by omega), hd, Option.bind_some, wr _ (by omega) (by omega)]
    exact hk
theorem pat_l1 (l : List S28) (hl : l.length ≤ 100) : ∀ (n j : Nat), j + n = l.length → Ev (fun k => skirmishlaw20_OrdersPatrols.l1 k (pt l) (l.drop j ++ pt (l.take j)) (l.length : Int) (j : Int)) true := by
  have hP := pt_len l
  intro n
  induction n with
  | zero =>
    intro j hj
    rw [List.drop_eq_nil_of_le (by omega), List.take_of_length_le (by omega), List.nil_append]
    have h2 := pat_l2 (pt l) (by omega) (pt_mem l) (pt l).length 0 (by omega)
    rw [List.drop_zero, List.take_zero, List.append_nil] at h2
    refine Ev.both (same_ev (pt l) (by omega)) h2 (fun k h1 h2 => ?_)
    have e0 : skirmishref20_Same.f k (pt l) (pt l) = some true := h1
    simp only [skirmishlaw20_OrdersPatrols.l1]
    rw [if_neg (by omega), e0, Option.bind_some, if_pos rfl]
    exact h2
  | succ n ih =>
    intro j hj
    have hjl : j < l.length := by omega
    have hq := pt_len (l.take j)
    rw [List.length_take] at hq
    have hm : (l.drop j ++ pt (l.take j)).length = l.length - j + (pt (l.take j)).length := by rw [List.length_append, List.length_drop]
    have hd : orders_Done.f (l.drop j ++ pt (l.take j)) = some (l.drop (j + 1) ++ pt (l.take (j + 1))) := by
      rw [done_eq _ (by omega), List.drop_eq_getElem_cons hjl]
      show some (dn (l[j] :: (l.drop (j + 1) ++ pt (l.take j)))) = _
      rw [dn_cons, take_next l j hjl, List.append_assoc]
    have hn : (l.drop (j + 1) ++ pt (l.take (j + 1))).length = l.length - (j + 1) + ((pt (l.take j)).length + (if l[j].f0 = 6 then 1 else 0)) := by
      rw [List.length_append, List.length_drop, take_next l j hjl, List.length_append]
      split <;> rfl
    refine Ev.step2 (ih (j + 1) (by omega)) (fun k hk => ?_)
    have hk' : skirmishlaw20_OrdersPatrols.l1 k (pt l) (l.drop (j + 1) ++ pt (l.take (j + 1))) (l.length : Int) ((j + 1 : Nat) : Int) = some true := hk
    simp only [skirmishlaw20_OrdersPatrols.l1]
    rw [if_pos (by omega), hd, Option.bind_some, wr ((j : Int) + 1) (by omega) (by omega), hn, hm]
    by_cases h6 : l[j].f0 = 6
    · rw [if_pos h6, if_pos (by omega)]
      exact hk'
    · rw [if_neg h6, if_neg (by omega), wr _ (by omega) (by omega), if_pos (by omega)]
      exact hk'
theorem pat_l0 (l : List S28) (hl : l.length ≤ 100) : ∀ (n j : Nat), j + n = l.length → Ev (fun k => skirmishlaw20_OrdersPatrols.l0 k l (pt (l.take j)) (l.length : Int) (j : Int)) true := by
  intro n
  induction n with
  | zero =>
    intro j hj
    have h1 := pat_l1 l hl l.length 0 (by omega)
    rw [List.drop_zero, List.take_zero, show pt [] = [] from rfl, List.append_nil] at h1
    rw [List.take_of_length_le (by omega)]
    refine Ev.step2 h1 (fun k hk => ?_)
    simp only [skirmishlaw20_OrdersPatrols.l0, Option.bind_some, List.nil_append, List.length_nil, Nat.zero_add]
    rw [if_neg (by omega), if_pos (by omega)]
    exact hk
  | succ n ih =>
    intro j hj
    have hjl : j < l.length := by omega
    have hq := pt_len (l.take j)
    rw [List.length_take] at hq
    refine Ev.step2 (ih (j + 1) (by omega)) (fun k hk => ?_)
    have hk' : skirmishlaw20_OrdersPatrols.l0 k l (pt (l.take (j + 1))) (l.length : Int) ((j + 1 : Nat) : Int) = some true := hk
    rw [take_next l j hjl] at hk'
    simp only [skirmishlaw20_OrdersPatrols.l0, rd28 l j hjl]
    rw [if_pos (by omega), if_pos (by omega), if_pos (by omega), wr _ (by omega) (by omega)]
    by_cases h6 : l[j].f0 = 6
    · rw [if_pos h6] at hk'
      rw [if_pos h6, if_pos (by omega)]
      exact hk'
    · rw [if_neg h6, List.append_nil] at hk'
      rw [if_neg h6]
      exact hk'
theorem OrdersPatrols (l : List S28) (_ : ∀ y ∈ l, G28 y) (hl : l.length ≤ maxLen) : ∃ k, skirmishlaw20_OrdersPatrols.f k l = some true := by
  refine Ev.rounds (g := fun k => skirmishlaw20_OrdersPatrols.f k l) ?_
  obtain ⟨b, hb, hb2⟩ := small_ev l hl
  unfold skirmishlaw20_OrdersPatrols.f
  refine Ev.bind hb ?_
  cases b with
  | false =>
    simp only [Bool.false_eq_true, if_false]
    exact Ev.bind alive_ev (Ev.now true)
  | true =>
    simp only [if_true]
    exact pat_l0 l (hb2 rfl).1 l.length 0 (by omega)
end Go.Proofs.Ytbclljolofbfdaa.Pure
