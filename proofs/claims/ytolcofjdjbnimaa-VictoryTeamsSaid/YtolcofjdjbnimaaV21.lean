/- Chapter 33: the plain law of VictoryTeams: what a second Phase changes, the teams of those who are left. -/
import Derived.Test.YtolcofjdjbnimaaV18
namespace Go.Proofs.Ytolcofjdjbnimaa.V
open Go.RowKit Go.Proofs.YtolcofjdjbnimaaW.PrintWords Go.Proofs.YtolcofjdjbnimaaW.PrintLast Go.Proofs.YtolcofjdjbnimaaW.PrintMore
set_option linter.unusedVariables false
set_option linter.unusedSimpArgs false

theorem gone_out (us : List S69) (p : S52) : gone us (outP p) = false := rfl
theorem ph1_f0 (us : List S69) (p : S52) : (ph1 us p).f0 = p.f0 := by
  unfold ph1; split <;> rfl
theorem ph1_f1 (us : List S69) (p : S52) : (ph1 us p).f1 = p.f1 := by
  unfold ph1; split <;> rfl
theorem gone_ph1 (us : List S69) (p : S52) : gone us (ph1 us p) = false := by
  cases h : gone us p with
  | true => simp only [ph1, h, if_true]; rfl
  | false => simp only [ph1, h, Bool.false_eq_true, if_false]
theorem ph1_ph1 (us : List S69) (p : S52) : ph1 us (ph1 us p) = ph1 us p := by
  have h := gone_ph1 us p
  generalize ph1 us p = q at *
  simp only [ph1, h, Bool.false_eq_true, if_false]
theorem phP_phP (us : List S69) (ps : List S52) : phP us (phP us ps) = phP us ps := by
  unfold phP
  rw [List.map_map]
  exact List.map_congr_left (fun p _ => ph1_ph1 us p)
theorem phE_phP (us : List S69) (ps : List S52) : phE us (phP us ps) = [] := by
  unfold phE phP
  rw [List.filter_map, List.map_map, List.map_eq_nil_iff, List.filter_eq_nil_iff]
  intro p _
  simp [gone_ph1]
theorem phW_phW (win : Int) (us : List S69) (ps : List S52) : phW (phW win us ps) us (phP us ps) = phW win us ps := by
  unfold phW
  rw [phP_phP]
  by_cases h : win = 0
  · rw [if_pos h]
    split <;> rfl
  · rw [if_neg h, if_neg h]
theorem phV_phV (win : Int) (us : List S69) (ps : List S52) : phV (phW win us ps) us (phP us ps) = [] := by
  unfold phV
  rw [phP_phP, phE_phP]
  split
  · next h =>
    unfold phW at h
    split at h
    · rw [if_pos h]
    · contradiction
  · rfl
theorem rd_ph {us : List S69} {ps : List S52} {x : Int} (h0 : 0 ≤ x) (h1 : x < ps.length) : rd_T52 (phP us ps) x = ph1 us (rd_T52 ps x) := by
  obtain ⟨i, rfl⟩ := Int.eq_ofNat_of_zero_le h0
  have hi : i < ps.length := by omega
  have hi2 : i < (phP us ps).length := by unfold phP; rw [List.length_map]; exact hi
  rw [rd52 _ i hi2, rd52 _ i hi]
  simp [phP]
theorem ph_len (us : List S69) (ps : List S52) : (phP us ps).length = ps.length := by unfold phP; rw [List.length_map]
/-- A player who is out behind Phase was out ahead of it, or leaves in it. -/
theorem ph_out {us : List S69} {p : S52} (h : (ph1 us p).f5 = true) : gone us p = !p.f5 := by
  cases hg : gone us p with
  | true =>
    simp only [gone, Bool.and_eq_true] at hg
    exact hg.1.symm
  | false =>
    simp only [ph1, hg, Bool.false_eq_true, if_false] at h
    rw [h]; rfl
theorem ph_in {us : List S69} {p : S52} (h : (ph1 us p).f5 = false) : gone us p = false ∧ p.f5 = false ∧ ownsS us p.f0 = true := by
  cases hg : gone us p with
  | true => simp only [ph1, hg, if_true, outP] at h; cases h
  | false =>
    simp only [ph1, hg, Bool.false_eq_true, if_false] at h
    refine ⟨rfl, h, ?_⟩
    simp only [gone, h, Bool.not_false, Bool.true_and, Bool.not_eq_false'] at hg
    exact hg
/-- Who is left is alive. -/
theorem ph_alive {us : List S69} {ps : List S52} {x : Int} (h0 : 0 ≤ x) (h1 : x < ps.length) (hd : ∀ i j : Int, 0 ≤ j → j < i → i < ps.length → (rd_T52 ps i).f0 ≠ (rd_T52 ps j).f0) (h : (rd_T52 (phP us ps) x).f5 = false) : aliveS (phP us ps) us (rd_T52 (phP us ps) x).f0 = true := by
  have hl := ph_len us ps
  have hf : findS (phP us ps) (rd_T52 (phP us ps) x).f0 = x := findS_at h0 (by omega) rfl (fun j hj hjx => by
    rw [rd_ph hj (by omega), rd_ph h0 h1, ph1_f0, ph1_f0]
    exact fun e => hd x j hj hjx h1 e.symm)
  unfold aliveS
  rw [hf, h]
  rw [rd_ph h0 h1] at h ⊢
  rw [ph1_f0, (ph_in h).2.2, decide_eq_true h0]
  rfl
/-- The teams of those who are left, as the law counts them. -/
def addT (ts : List Int) (p : S52) : List Int := if p.f5 then ts else if ts.getLast? = some p.f1 then ts else ts ++ [p.f1]
def teamsS (ps : List S52) : List Int := ps.foldl addT []
def leftS (ps : List S52) : Nat := (ps.filter (fun p => !p.f5)).length
theorem addT_len (ts : List Int) (p : S52) : ts.length ≤ (addT ts p).length := by
  unfold addT
  split
  · exact Nat.le_refl _
  · split
    · exact Nat.le_refl _
    · simp
theorem fold_len (l : List S52) (ts : List Int) : ts.length ≤ (l.foldl addT ts).length := by
  induction l generalizing ts with
  | nil => exact Nat.le_refl _
  | cons p l ih => exact Nat.le_trans (addT_len ts p) (ih _)
theorem rwin_teams (l : List S52) (t : Int) : (1 < (l.foldl addT [t]).length ∧ rwin l t true = 0) ∨ (l.foldl addT [t] = [t] ∧ rwin l t true = t) := by
  induction l with
  | nil => exact Or.inr ⟨rfl, by simp [rwin]⟩
  | cons p l ih =>
    rw [List.foldl_cons]
    cases h5 : p.f5 with
    | true =>
      have e : addT [t] p = [t] := by unfold addT; rw [h5, if_pos rfl]
      rw [e]
      simpa [rwin, h5] using ih
    | false =>
      by_cases h : p.f1 = t
      · have e : addT [t] p = [t] := by unfold addT; rw [h5, h]; simp
        rw [e]
        simpa [rwin, h5, h] using ih
      · have e : addT [t] p = [t, p.f1] := by unfold addT; rw [h5]; simp [Ne.symm h]
        rw [e]
        refine Or.inl ⟨?_, by simp [rwin, h5, h]⟩
        exact Nat.lt_of_lt_of_le (by simp) (fold_len l [t, p.f1])
/-- Who has won, and the teams that are left. -/
theorem win_teams (l : List S52) (t0 : Int) : (l.foldl addT [] = [] ∧ leftS l = 0 ∧ rwin l t0 false = -1) ∨ ∃ p ∈ l, (1 < (teamsS l).length ∧ rwin l t0 false = 0) ∨ (teamsS l = [p.f1] ∧ rwin l t0 false = p.f1) := by
  induction l generalizing t0 with
  | nil => exact Or.inl ⟨rfl, rfl, by simp [rwin]⟩
  | cons p l ih =>
    cases h5 : p.f5 with
    | true =>
      have e : addT [] p = [] := by unfold addT; rw [h5, if_pos rfl]
      have e2 : teamsS (p :: l) = teamsS l := by unfold teamsS; rw [List.foldl_cons, e]
      have e3 : rwin (p :: l) t0 false = rwin l t0 false := by simp [rwin, h5]
      have e4 : leftS (p :: l) = leftS l := by simp [leftS, h5]
      rcases ih t0 with ⟨h1, h2, h3⟩ | ⟨q, hq, h1⟩
      · exact Or.inl ⟨by rw [List.foldl_cons, e]; exact h1, by rw [e4]; exact h2, by rw [e3]; exact h3⟩
      · exact Or.inr ⟨q, List.mem_cons_of_mem _ hq, by rw [e2, e3]; exact h1⟩
    | false =>
      have e : addT [] p = [p.f1] := by unfold addT; rw [h5]; simp
      have e2 : teamsS (p :: l) = l.foldl addT [p.f1] := by unfold teamsS; rw [List.foldl_cons, e]
      have e3 : rwin (p :: l) t0 false = rwin l p.f1 true := by simp [rwin, h5]
      refine Or.inr ⟨p, List.mem_cons_self, ?_⟩
      rw [e2, e3]
      exact rwin_teams l p.f1
theorem winner_teams {ps : List S52} (h1 : ∀ p ∈ ps, 1 ≤ p.f1) : (winnerS ps = 0 → 1 < (teamsS ps).length) ∧ (winnerS ps = -1 → leftS ps = 0) ∧ (winnerS ps ≠ 0 → winnerS ps ≠ -1 → teamsS ps = [winnerS ps]) := by
  rw [← rwin_is ps 0]
  rcases win_teams ps 0 with ⟨h2, h3, h4⟩ | ⟨p, hp, ⟨h2, h3⟩ | ⟨h2, h3⟩⟩
  · rw [h4]
    exact ⟨fun h => by omega, fun _ => h3, fun _ h => absurd rfl h⟩
  · rw [h3]
    exact ⟨fun _ => h2, fun h => by omega, fun h => absurd rfl h⟩
  · have := h1 p hp
    rw [h3]
    exact ⟨fun h => by omega, fun h => by omega, fun _ _ => h2⟩
theorem teams_next {ps : List S52} {x : Int} (h0 : 0 ≤ x) (h1 : x < ps.length) : teamsS (ps.take (x + 1).toNat) = addT (teamsS (ps.take x.toNat)) (rd_T52 ps x) := by
  unfold teamsS
  rw [take52 h0 h1, List.foldl_append]
  rfl
theorem left_next {ps : List S52} {x : Int} (h0 : 0 ≤ x) (h1 : x < ps.length) : leftS (ps.take (x + 1).toNat) = leftS (ps.take x.toNat) + (if (rd_T52 ps x).f5 then 0 else 1) := by
  unfold leftS
  rw [take52 h0 h1, List.filter_append, List.length_append]
  cases h : (rd_T52 ps x).f5 <;> simp [h]
theorem left_le (ps : List S52) (n : Nat) : leftS (ps.take n) ≤ ps.length := by
  unfold leftS
  exact Nat.le_trans (List.length_filter_le _ _) (List.take_sublist n ps).length_le
theorem teams_le (ps : List S52) : (teamsS ps).length ≤ ps.length := by
  have : ∀ (l : List S52) (ts : List Int), (l.foldl addT ts).length ≤ ts.length + l.length := by
    intro l
    induction l with
    | nil => intro ts; exact Nat.le_refl _
    | cons p l ih =>
      intro ts
      have h := ih (addT ts p)
      have h2 : (addT ts p).length ≤ ts.length + 1 := by
        unfold addT
        split
        · omega
        · split
          · omega
          · simp
      rw [List.foldl_cons]
      simp only [List.length_cons]
      omega
  have h := this ps []
  simpa [teamsS] using h
theorem addT_out {ts : List Int} {p : S52} (h : p.f5 = true) : addT ts p = ts := by unfold addT; rw [h, if_pos rfl]
theorem addT_old {ts : List Int} {p : S52} (h : ts.getLast? = some p.f1) : addT ts p = ts := by unfold addT; rw [if_pos h]; split <;> rfl
theorem addT_new {ts : List Int} {p : S52} (h5 : p.f5 = false) (h : ts.getLast? ≠ some p.f1) : addT ts p = ts ++ [p.f1] := by unfold addT; rw [h5, if_neg h]; rfl
theorem phE_win {win : Int} {us : List S69} {ps : List S52} (h : win ≠ 0) : phW win us ps = win ∧ phV win us ps = phE us ps := by
  unfold phW phV
  rw [if_neg h, if_neg h]
  exact ⟨rfl, rfl⟩
theorem phV_zero {us : List S69} {ps : List S52} (h : phW 0 us ps = 0) : (phV 0 us ps).length = (phE us ps).length := by
  unfold phW at h
  unfold phV
  rw [if_pos rfl] at h ⊢
  rw [if_pos h]
theorem phV_one {us : List S69} {ps : List S52} (h : phW 0 us ps ≠ 0) : (phV 0 us ps).length = (phE us ps).length + 1 := by
  unfold phW at h
  unfold phV
  rw [if_pos rfl] at h ⊢
  rw [if_neg h, List.length_append]
  rfl
theorem phW_zero (us : List S69) (ps : List S52) : phW 0 us ps = winnerS (phP us ps) := if_pos rfl
end Go.Proofs.Ytolcofjdjbnimaa.V
