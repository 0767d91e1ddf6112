/- net.Duplicate adds what the reference's Duplicate adds: for all lists and indices. -/
import Derived.Test.YtcpnmlmghjhelaaNetLib
import Derived.Test.YtcpnmlmghjhelaaFx3
import Derived.Test.YtcpnmlmghjhelaaFx9
namespace Go.Proofs.Ytcpnmlmghjhelaa.Pure
open Go.RowKit Go.Proofs.Ytcpnmlmghjhelaa.F Go.Proofs.Ytcpnmlmghjhelaa.Opens Go.Proofs.YtcpnmlmghjhelaaW.PrintWords Go.Proofs.YtcpnmlmghjhelaaW.PrintLast Go.Proofs.YtcpnmlmghjhelaaW.PrintMore

/-- The list behind Duplicate, and the error. -/
def dup (l : List S32) (a : Int) : List S32 × Int :=
  if 0 ≤ a ∧ a < (l.length : Int) then (if l.length ≥ 256 then ([], 17) else (l ++ [rd_T32 l a], 0)) else ([], 8)
theorem dup_eq (l : List S32) (a : Int) (hl : l.length ≤ 601) : net_Duplicate.f l a = some (dup l a) := by
  unfold net_Duplicate.f net_has.f dup
  by_cases h0 : a ≥ 0
  · rw [if_pos h0]
    simp only [Option.bind_some]
    by_cases h1 : a < (l.length : Int)
    · have hd : 0 ≤ a ∧ a < (l.length : Int) := ⟨h0, h1⟩
      simp only [decide_eq_true h1, if_true, if_pos hd]
      by_cases h2 : l.length ≥ 256
      · rw [if_pos (by omega), if_pos h2]
      · rw [if_neg (by omega), if_neg h2]
        unfold api_Packet_23.f
        simp only [Option.bind_some, List.nil_append, List.length_nil, Nat.zero_add, if_pos (show l.length < 1172812402961 by omega)]
        rw [if_pos (by omega), if_pos h1, if_pos (by simp; omega)]
    · have hd : ¬ (0 ≤ a ∧ a < (l.length : Int)) := by omega
      simp only [decide_eq_false h1, Bool.false_eq_true, if_false, if_neg hd]
  · have hd : ¬ (0 ≤ a ∧ a < (l.length : Int)) := by omega
    rw [if_neg h0]
    simp only [Option.bind_some, Bool.false_eq_true, if_false, if_neg hd]
theorem ref_dup_ev (l : List S32) (a : Int) (hl : l.length ≤ 601) : Ev (fun k => skirmishref48_Duplicate.f k l a) (dup l a) := by
  have ht : ∀ k, skirmishref48_Duplicate.j0 (k + 1) l a true = some ([], 8) := fun k => by simp only [skirmishref48_Duplicate.j0, if_true]
  refine Ev.in1 (fun k => ?_)
  unfold skirmishref48_Duplicate.f dup
  by_cases h0 : a < 0
  · rw [if_pos h0, if_neg (by omega)]
    exact ht k
  · rw [if_neg h0]
    by_cases h1 : a ≥ (l.length : Int)
    · rw [decide_eq_true h1, if_neg (by omega)]
      exact ht k
    · rw [decide_eq_false h1, if_pos (by omega)]
      simp only [skirmishref48_Duplicate.j0, Bool.false_eq_true, if_false]
      by_cases h2 : l.length ≥ 256
      · rw [if_pos (by omega), if_pos h2]
      · rw [if_neg (by omega), if_neg h2]
        simp only [Option.bind_some, List.nil_append, List.length_nil, Nat.zero_add, if_pos (show l.length < 1172812402961 by omega)]
        rw [if_pos (by omega), if_pos (by omega)]
theorem NetDuplicates (l : List S32) (hg : ∀ y ∈ l, G32 y) (hl : l.length ≤ maxLen) (a : Int) (_ : (Lit.int .i64 a).wf = true) : ∃ k, skirmishlaw48_NetDuplicates.f k l a = some true := by
  refine Ev.rounds (g := fun k => skirmishlaw48_NetDuplicates.f k l a) ?_
  obtain ⟨b, hb, hb2⟩ := huge_ev l hg hl
  unfold skirmishlaw48_NetDuplicates.f
  refine Ev.bind hb ?_
  cases b with
  | true =>
    simp only [if_true]
    exact Ev.bind awake_ev (Ev.now true)
  | false =>
    have h1 := hb2 rfl
    simp only [Bool.false_eq_true, if_false, dup_eq l a h1, Option.bind_some]
    have hd : ∀ y ∈ (dup l a).1, G32 y := by
      unfold dup
      split
      · rename_i h
        split
        · simp
        · intro y hy
          rcases List.mem_append.1 hy with h2 | h2
          · exact hg y h2
          · rw [List.mem_singleton] at h2
            obtain ⟨n, rfl⟩ := Int.eq_ofNat_of_zero_le h.1
            rw [h2]
            exact rd32 l hg n (by omega)
      · simp
    have hdl : (dup l a).1.length ≤ maxLen := by
      unfold dup maxLen
      split
      · split
        · simp
        · simp; omega
      · simp
    refine Ev.bind (ref_dup_ev l a h1) (Ev.bind (same_ev _ hd hdl) ?_)
    simp only [if_true]
    exact Ev.bind awake_ev (Ev.now true)
end Go.Proofs.Ytcpnmlmghjhelaa.Pure
