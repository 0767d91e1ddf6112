/- rng.Shuffle's result contains each number once, and its state is the one behind n - 1 draws, for every state and every n up to 1000. -/
import Derived.Test.YtfnndfejmmajfaaRngShuf
namespace Go.Proofs.Ytfnndfejmmajfaa.Pure
open Go.RowKit Go.Proofs.Ytfnndfejmmajfaa.F Go.Proofs.YtfnndfejmmajfaaW.PrintWords Go.Proofs.YtfnndfejmmajfaaW.PrintLast

theorem chain_end (s : Int) (x : Int) (hx : x ≤ 1) : Ev (fun k => skirmishlaw03_RngPermutes.l1 k s s x) true := by
  refine Ev.step1 awake_ev (fun k hk => ?_)
  simp only [skirmishlaw03_RngPermutes.l1]
  rw [if_neg (by omega), if_pos trivial, hk]
  rfl
theorem chain_l1 {m : Nat} {t : Int} {l l' : List Int} {s' : Int} (h : Shuf m t l l' s') : m ≤ 1000 → Ev (fun k => skirmishlaw03_RngPermutes.l1 k s' t ((m : Int) + 1)) true := by
  induction h with
  | done s l => exact fun _ => chain_end s _ (by omega)
  | step m s l r l' s' hr _ ih =>
    intro hm
    refine Ev.two (below_draw (by omega) (by omega) hr) (ih (by omega)) (fun k h1 h2 => ?_)
    have e1 : ((m + 1 : Nat) : Int) + 1 = (m : Int) + 2 := by omega
    have e2 : wrap64 ((m : Int) + 2 - 1) = (m : Int) + 1 := by rw [wr _ (by omega) (by omega)]; omega
    simp only [skirmishlaw03_RngPermutes.l1]
    rw [e1, if_pos (by omega), h1]
    simp only [Option.bind_some, if_true]
    rw [e2]
    exact h2

theorem seen_l0 (n : Nat) (hn : n ≤ 1000) (x0 x6 : Int) (l : List Int) (hl : l.length = n) (hnd : l.Nodup) (hr : ∀ v, v ∈ l → 0 ≤ v ∧ v < n) (h : Ev (fun k => skirmishlaw03_RngPermutes.l1 k x6 x0 (n : Int)) true) :
    ∀ (d j : Nat) (sn : List Bool), j + d = n → sn.length = n → (∀ v : Nat, sn.getD v false = true → (v : Int) ∈ l.take j) → Ev (fun k => skirmishlaw03_RngPermutes.l0 k x0 l x6 sn (j : Int)) true := by
  intro d
  induction d with
  | zero =>
    intro j sn hj _ _
    refine Ev.step1 h (fun k hk => ?_)
    simp only [skirmishlaw03_RngPermutes.l0]
    rw [if_neg (by omega), hl]
    exact hk
  | succ d ih =>
    intro j sn hj hs hseen
    have hjl : j < l.length := by omega
    have ex : rd l (j : Int) = l[j] := by
      show l.getD (j : Int).toNat 0 = _
      rw [Int.toNat_natCast, List.getD_eq_getElem?_getD, List.getElem?_eq_getElem hjl]
      rfl
    have hb := hr l[j] (List.getElem_mem hjl)
    have hns : ¬ (rdOf false sn l[j] = true) := by
      intro e
      have h1 := hseen l[j].toNat e
      rw [Int.toNat_of_nonneg hb.1] at h1
      obtain ⟨i, hi, he⟩ := List.getElem_of_mem h1
      have hij : i < j := by rw [List.length_take] at hi; omega
      rw [List.getElem_take] at he
      exact (List.pairwise_iff_getElem.1 hnd i j (by omega) hjl hij) he
    refine Ev.step1 (ih (j + 1) (sn.set l[j].toNat true) (by omega) (by rw [List.length_set]; exact hs) (fun v hv => ?_)) (fun k hk => ?_)
    · have et : l.take (j + 1) = l.take j ++ [l[j]] := List.take_succ_eq_append_getElem hjl
      rw [et]
      by_cases e : v = l[j].toNat
      · subst e
        rw [Int.toNat_of_nonneg hb.1]
        exact List.mem_append_right _ (List.mem_singleton.2 rfl)
      · rw [List.getD_eq_getElem?_getD, List.getElem?_set_ne (fun h => e h.symm), ← List.getD_eq_getElem?_getD] at hv
        exact List.mem_append_left _ (hseen v hv)
    · simp only [skirmishlaw03_RngPermutes.l0]
      rw [ex, if_pos (by omega), if_pos (by omega), if_neg (by omega), if_neg (by omega), if_pos hb.1, if_pos (by omega), if_neg hns, wr _ (by omega) (by omega)]
      exact hk

theorem RngPermutes : skirmishlaw03_RngPermutes.Pure := by
  intro a0 a1 _ w1
  have hb := bounds_u16 w1
  have e0 : Int.tmod (wrap64 a1) 1001 = a1 % 1001 := by
    rw [wr _ (by omega) (by omega), Int.tmod_eq_emod_of_nonneg hb.1]
  obtain ⟨n, hn⟩ := Int.eq_ofNat_of_zero_le (show 0 ≤ a1 % 1001 by omega)
  have hn2 : n ≤ 1000 := by omega
  obtain ⟨l, s, hw⟩ := whole_ex n a0 hn2
  have hlen : l.length = n := by have := shuf_length hw; rw [iot_length] at this; exact this
  have hp : l.Perm (iot n) := shuf_perm hw (by rw [iot_length]; omega)
  have hl1 : Ev (fun k => skirmishlaw03_RngPermutes.l1 k s a0 (n : Int)) true := by
    by_cases h0 : n = 0
    · subst h0
      cases hw
      exact chain_end _ _ (by omega)
    · have h2 := chain_l1 hw (by omega)
      have e : ((n - 1 : Nat) : Int) + 1 = (n : Int) := by omega
      rw [e] at h2
      exact h2
  have hl0 := seen_l0 n hn2 a0 s l hlen (hp.nodup_iff.2 (iot_nodup n)) (fun v hv => (iot_mem n v).1 (hp.mem_iff.1 hv)) hl1 n 0 (List.replicate n false) (by omega) (List.length_replicate) (fun v hv => by
    exfalso
    rw [List.getD_eq_getElem?_getD, List.getElem?_replicate] at hv
    split at hv <;> simp at hv)
  refine Ev.rounds (g := fun k => skirmishlaw03_RngPermutes.f k a0 a1) ?_
  unfold skirmishlaw03_RngPermutes.f
  rw [e0, hn]
  refine Ev.bind (rng_whole hn2 hw) ?_
  simp only [if_true]
  refine Ev.step1 hl0 (fun k hk => ?_)
  simp only [skirmishlaw03_RngPermutes.j0]
  rw [hlen, if_neg (by simp), if_pos (by omega), if_pos (by omega), Int.toNat_natCast]
  exact hk

end Go.Proofs.Ytfnndfejmmajfaa.Pure
