/- delay.Split cuts a list of at most 200 commands in two: for all lists. -/
import Derived.Test.YtankidkjkmfefaaDelayLib
import Derived.Test.YtankidkjkmfefaaFx5
import Derived.Test.YtankidkjkmfefaaOpensT
namespace Go.Proofs.Ytankidkjkmfefaa.Pure
open Go.RowKit Go.Proofs.Ytankidkjkmfefaa.F Go.Proofs.Ytankidkjkmfefaa.Opens Go.Proofs.YtankidkjkmfefaaW.PrintWords Go.Proofs.YtankidkjkmfefaaW.PrintLast Go.Proofs.YtankidkjkmfefaaW.PrintMore

theorem same34_l0 (n0 n1 : Int) (u : List Int) (n3 n4 n5 n6 : Int) (s : ByteArray) (b : Bool) (hu : u.length ≤ maxLen) : ∀ (n j : Nat), j + n = u.length →
    Ev (fun k => skirmishref34_Same.l0 k (j : Int) n0 n1 u n3 n4 n5 n6 s b n0 n1 u n3 n4 n5 n6 s b) true := by
  intro n
  unfold maxLen at hu
  induction n with
  | zero =>
    intro j hj
    refine Ev.in1 (fun k => ?_)
    simp only [skirmishref34_Same.l0]
    rw [if_neg (by omega)]
  | succ n ih =>
    intro j hj
    refine Ev.step1 (ih (j + 1) (by omega)) (fun k hk => ?_)
    simp only [skirmishref34_Same.l0]
    rw [if_pos (by omega), if_pos (by omega), if_pos (by omega), if_true, wr _ (by omega) (by omega)]
    exact hk
theorem same_self (x : S36) (hu : x.f2.length ≤ maxLen) : Ev (fun k => skirmishref34_Same.f k x.f0 x.f1 x.f2 x.f3.f0 x.f3.f1 x.f4 x.f5 x.f6 x.f7 x.f0 x.f1 x.f2 x.f3.f0 x.f3.f1 x.f4 x.f5 x.f6 x.f7) true := by
  refine Ev.step1 (same34_l0 x.f0 x.f1 x.f2 x.f3.f0 x.f3.f1 x.f4 x.f5 x.f6 x.f7 hu x.f2.length 0 (by omega)) (fun k hk => ?_)
  unfold skirmishref34_Same.f
  simp only [if_true, beq_self_eq_true, Bool.not_true, Bool.or_self, Bool.false_eq_true, if_false, bne_self_eq_false, skirmishref34_Same.j0]
  exact hk

theorem split_eq (l : List S36) (hl : l.length ≤ 200) : delay_Split.f l = some (l.take 16, l.drop 16) := by
  have hm : mn (l.length : Int) 16 = ((min l.length 16 : Nat) : Int) := by unfold mn; omega
  unfold delay_Split.f api_Command.f
  rw [hm, if_pos (by omega), if_pos (by omega)]
  simp only [Option.bind_some, Int.toNat_natCast, List.length_nil, Nat.zero_add, List.nil_append]
  rw [if_pos (by rw [List.length_take]; omega)]
  simp only [Option.bind_some]
  rw [if_pos (by rw [List.length_drop]; omega)]
  simp only [Option.bind_some]
  rcases Nat.le_total l.length 16 with h | h
  · rw [Nat.min_eq_left h, List.take_of_length_le (Nat.le_refl _), List.take_of_length_le h, List.drop_eq_nil_of_le (Nat.le_refl _), List.drop_eq_nil_of_le h]
  · rw [Nat.min_eq_right h]

theorem rd36_take (l : List S36) (j : Nat) (h : j < 16) : rd_T36 (l.take 16) (j : Int) = rd_T36 l (j : Int) := by
  unfold rd_T36
  rw [Int.toNat_natCast, List.getD_eq_getElem?_getD, List.getD_eq_getElem?_getD, List.getElem?_take_of_lt h]
theorem rd36_drop (l : List S36) (j : Nat) (h : 16 ≤ j) : rd_T36 (l.drop 16) ((j - 16 : Nat) : Int) = rd_T36 l (j : Int) := by
  unfold rd_T36
  rw [Int.toNat_natCast, Int.toNat_natCast, List.getD_eq_getElem?_getD, List.getD_eq_getElem?_getD, List.getElem?_drop]
  congr 3
  omega
theorem rd36_len (l : List S36) (hg : ∀ x ∈ l, G36 x) (j : Nat) (h : j < l.length) : (rd_T36 l (j : Int)).f2.length ≤ maxLen := by
  unfold rd_T36
  rw [Int.toNat_natCast, List.getD_eq_getElem?_getD, List.getElem?_eq_getElem h, Option.getD_some]
  exact (hg _ (List.getElem_mem h)).2.2.1.2

theorem splits_l0 (l : List S36) (hg : ∀ x ∈ l, G36 x) (hl : l.length ≤ 200) : ∀ (n j : Nat), j + n = l.length →
    Ev (fun k => skirmishlaw50_DelaySplits.l0 k l (l.take 16) (l.drop 16) (j : Int)) true := by
  intro n
  have lt : (l.take 16).length = min 16 l.length := List.length_take
  have ld : (l.drop 16).length = l.length - 16 := List.length_drop
  induction n with
  | zero =>
    intro j hj
    refine Ev.step1 awake_ev (fun k hk => ?_)
    simp only [skirmishlaw50_DelaySplits.l0]
    rw [if_neg (by omega), hk]
    rfl
  | succ n ih =>
    intro j hj
    refine Ev.two (ih (j + 1) (by omega)) (same_self (rd_T36 l (j : Int)) (rd36_len l hg j (by omega))) (fun k hk hs => ?_)
    simp only [skirmishlaw50_DelaySplits.l0]
    rw [if_pos (by omega)]
    by_cases h16 : j < 16
    · rw [if_pos (by omega), if_pos (by omega), rd36_take l j h16, hs]
      simp only [Option.bind_some, if_true]
      rw [if_neg (by omega), wr _ (by omega) (by omega)]
      exact hk
    · have e : wrap64 ((j : Int) - ((l.take 16).length : Int)) = ((j - 16 : Nat) : Int) := by rw [wr _ (by omega) (by omega)]; omega
      rw [if_neg (by omega), if_pos (by omega), e, if_pos (by omega), if_pos (by omega), if_pos (by omega), rd36_drop l j (by omega), hs]
      simp only [Option.bind_some, if_true]
      rw [wr _ (by omega) (by omega)]
      exact hk
theorem DelaySplits (l : List S36) (hg : ∀ x ∈ l, G36 x) (_ : l.length ≤ maxLen) : ∃ k, skirmishlaw50_DelaySplits.f k l = some true := by
  refine Ev.rounds (g := fun k => skirmishlaw50_DelaySplits.f k l) ?_
  unfold skirmishlaw50_DelaySplits.f
  by_cases h : (l.length : Int) > 200
  · simp only [if_pos h]
    exact Ev.bind awake_ev (Ev.now true)
  · simp only [if_neg h, split_eq l (by omega), Option.bind_some]
    have lt : (l.take 16).length = min 16 l.length := List.length_take
    have ld : (l.drop 16).length = l.length - 16 := List.length_drop
    have e1 : (((l.take 16).length : Nat) : Int) = mn (l.length : Int) 16 := by unfold mn; omega
    have e2 : wrap64 (((l.take 16).length : Int) + ((l.drop 16).length : Int)) = (l.length : Int) := by rw [wr _ (by omega) (by omega)]; omega
    simp only [if_pos e1, e2, bne_self_eq_false]
    refine Ev.step1 (splits_l0 l hg (by omega) l.length 0 (by omega)) (fun k hk => ?_)
    simp only [skirmishlaw50_DelaySplits.j0, Bool.false_eq_true, if_false]
    exact hk
end Go.Proofs.Ytankidkjkmfefaa.Pure
