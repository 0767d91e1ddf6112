/- None of the packets arrives more often than it was pushed and duplicated: for all lists of steps. -/
import Derived.Test.YtcpnmlmghjhelaaNetLib2
namespace Go.Proofs.Ytcpnmlmghjhelaa.Pure
set_option linter.unusedVariables false
open Go.RowKit Go.Proofs.Ytcpnmlmghjhelaa.F Go.Proofs.Ytcpnmlmghjhelaa.Opens Go.Proofs.YtcpnmlmghjhelaaW.PrintWords Go.Proofs.YtcpnmlmghjhelaaW.PrintLast Go.Proofs.YtcpnmlmghjhelaaW.PrintMore

/-- What holds behind j steps: t is in transit, s has been sent, a has arrived. -/
def inv (j : Nat) (t s a : List S32) : Prop := t.length ≤ 256 ∧ s.length ≤ 21 * j ∧ a.length ≤ j ∧ (∀ y ∈ t, G32 y) ∧ (∀ y ∈ s, G32 y) ∧ (∀ y ∈ a, G32 y) ∧ ∀ p : S32 → Bool, a.countP p + t.countP p ≤ s.countP p
theorem inv_next {j : Nat} {t s a : List S32} (h : inv j t s a) : inv (j + 1) t s a := ⟨h.1, by have := h.2.1; omega, by have := h.2.2.1; omega, h.2.2.2⟩
theorem inv_push {j : Nat} {t s a P : List S32} (h : inv j t s a) (hP : P.length ≤ 20) (hg : ∀ y ∈ P, G32 y) : inv (j + 1) (t ++ P.take (room t P)) (s ++ P) a := by
  obtain ⟨h1, h2, h3, h4, h5, h6, h7⟩ := h
  refine ⟨?_, ?_, by omega, fun y hy => ?_, fun y hy => ?_, h6, fun p => ?_⟩
  · rw [List.length_append, List.length_take]
    unfold room
    omega
  · rw [List.length_append]
    omega
  · rcases List.mem_append.1 hy with hy | hy
    · exact h4 y hy
    · exact hg y (List.mem_of_mem_take hy)
  · rcases List.mem_append.1 hy with hy | hy
    · exact h5 y hy
    · exact hg y hy
  · have := h7 p
    have h8 : (P.take (room t P)).countP p ≤ P.countP p := (List.take_sublist _ _).countP_le
    rw [List.countP_append, List.countP_append]
    omega
theorem split_count (t : List S32) (n : Nat) (h : n < t.length) (p : S32 → Bool) : t.countP p = (t.take n).countP p + [t[n]].countP p + (t.drop (n + 1)).countP p := by
  have e : t = t.take n ++ ([t[n]] ++ t.drop (n + 1)) := by
    rw [List.singleton_append, ← List.drop_eq_getElem_cons h, List.take_append_drop]
  calc t.countP p = (t.take n ++ ([t[n]] ++ t.drop (n + 1))).countP p := congrArg (List.countP p) e
    _ = _ := by rw [List.countP_append, List.countP_append, Nat.add_assoc]
theorem rd_at (t : List S32) (n : Nat) (h : n < t.length) : rd_T32 t (n : Int) = t[n] := by
  unfold rd_T32
  rw [Int.toNat_natCast, List.getD_eq_getElem?_getD, List.getElem?_eq_getElem h, Option.getD_some]
theorem left_at (t : List S32) (n : Nat) (h : n < t.length) : left t (n : Int) = t.take n ++ t.drop (n + 1) := by
  unfold left
  rw [if_pos (by omega)]
  rfl
theorem pick_at (t : List S32) (n : Nat) (h : n < t.length) : pick t (n : Int) = t[n] := by
  unfold pick
  rw [if_pos (by omega), rd_at t n h]
theorem inv_deliver {j : Nat} {t s a : List S32} (h : inv j t s a) (n : Nat) (hn : n < t.length) : inv (j + 1) (left t (n : Int)) s (a ++ [pick t (n : Int)]) := by
  obtain ⟨h1, h2, h3, h4, h5, h6, h7⟩ := h
  rw [left_at t n hn, pick_at t n hn]
  refine ⟨?_, by omega, ?_, fun y hy => ?_, h5, fun y hy => ?_, fun p => ?_⟩
  · rw [List.length_append, List.length_take, List.length_drop]
    omega
  · rw [List.length_append]
    show a.length + 1 ≤ j + 1
    omega
  · rcases List.mem_append.1 hy with hy | hy
    · exact h4 y (List.mem_of_mem_take hy)
    · exact h4 y (List.mem_of_mem_drop hy)
  · rcases List.mem_append.1 hy with hy | hy
    · exact h6 y hy
    · rw [List.mem_singleton.1 hy]
      exact h4 _ (List.getElem_mem hn)
  · have := h7 p
    have h8 := split_count t n hn p
    rw [List.countP_append, List.countP_append]
    omega
theorem inv_drop {j : Nat} {t s a : List S32} (h : inv j t s a) (n : Nat) (hn : n < t.length) : inv (j + 1) (left t (n : Int)) s a := by
  obtain ⟨h1, h2, h3, h4, h5, h6, h7⟩ := inv_deliver h n hn
  refine ⟨h1, h2, by have := h.2.2.1; omega, h4, h5, h.2.2.2.2.2.1, fun p => ?_⟩
  have := h7 p
  rw [List.countP_append] at this
  omega
theorem inv_dup {j : Nat} {t s a : List S32} (h : inv j t s a) (n : Nat) (hn : n < t.length) (hl : t.length < 256) : inv (j + 1) (t ++ [rd_T32 t (n : Int)]) (s ++ [rd_T32 t (n : Int)]) a := by
  obtain ⟨h1, h2, h3, h4, h5, h6, h7⟩ := h
  rw [rd_at t n hn]
  refine ⟨?_, ?_, by omega, fun y hy => ?_, fun y hy => ?_, h6, fun p => ?_⟩
  · rw [List.length_append]
    show t.length + 1 ≤ 256
    omega
  · rw [List.length_append]
    show s.length + 1 ≤ 21 * (j + 1)
    omega
  · rcases List.mem_append.1 hy with hy | hy
    · exact h4 y hy
    · rw [List.mem_singleton.1 hy]
      exact h4 _ (List.getElem_mem hn)
  · rcases List.mem_append.1 hy with hy | hy
    · exact h5 y hy
    · rw [List.mem_singleton.1 hy]
      exact h4 _ (List.getElem_mem hn)
  · have := h7 p
    rw [List.countP_append, List.countP_append]
    omega
/-- How many of a list are the same as y. -/
theorem count_ev (y : S32) (p : S32 → Bool) (hp : ∀ x, G32 x → Ev (fun k => skirmishref47_SamePacket.f k x.f0 x.f1 x.f2 x.f3 x.f4 x.f5 x.f6 x.f7.f0 x.f7.f1 x.f7.f2 x.f7.f3 x.f8 y.f0 y.f1 y.f2 y.f3 y.f4 y.f5 y.f6 y.f7.f0 y.f7.f1 y.f7.f2 y.f7.f3 y.f8) (p x)) (l : List S32) (hg : ∀ x ∈ l, G32 x) (hl : l.length ≤ 100000) :
    Ev (fun k => skirmishlaw48_count.f k l y.f0 y.f1 y.f2 y.f3 y.f4 y.f5 y.f6 y.f7.f0 y.f7.f1 y.f7.f2 y.f7.f3 y.f8) ((l.countP p : Nat) : Int) := by
  have h := count_l0 y p hp l hg hl l.length 0 0 (by omega) (Nat.le_refl _)
  rw [List.drop_zero, Nat.zero_add] at h
  exact h
theorem l1_ev (s a : List S32) (hs : ∀ y ∈ s, G32 y) (ha : ∀ y ∈ a, G32 y) (hsl : s.length ≤ 100000) (hal : a.length ≤ 100000) (hc : ∀ p : S32 → Bool, a.countP p ≤ s.countP p) : ∀ (n j : Nat), j + n = a.length → Ev (fun k => skirmishlaw48_NetKeeps.l1 k s a (j : Int)) true := by
  intro n
  induction n with
  | zero =>
    intro j hj
    refine Ev.step1 awake_ev (fun k hk => ?_)
    simp only [skirmishlaw48_NetKeeps.l1]
    rw [if_neg (by omega), hk]
    rfl
  | succ n ih =>
    intro j hj
    obtain ⟨p, hp⟩ := packet_p (rd_T32 a (j : Int))
    have hall : Ev (fun k => ((skirmishlaw48_count.f k a ((rd_T32 a (j : Int)).f0) ((rd_T32 a (j : Int)).f1) ((rd_T32 a (j : Int)).f2) ((rd_T32 a (j : Int)).f3) ((rd_T32 a (j : Int)).f4) ((rd_T32 a (j : Int)).f5) ((rd_T32 a (j : Int)).f6) ((rd_T32 a (j : Int)).f7.f0) ((rd_T32 a (j : Int)).f7.f1) ((rd_T32 a (j : Int)).f7.f2) ((rd_T32 a (j : Int)).f7.f3) ((rd_T32 a (j : Int)).f8)).bind fun t375 => ((skirmishlaw48_count.f k s ((rd_T32 a (j : Int)).f0) ((rd_T32 a (j : Int)).f1) ((rd_T32 a (j : Int)).f2) ((rd_T32 a (j : Int)).f3) ((rd_T32 a (j : Int)).f4) ((rd_T32 a (j : Int)).f5) ((rd_T32 a (j : Int)).f6) ((rd_T32 a (j : Int)).f7.f0) ((rd_T32 a (j : Int)).f7.f1) ((rd_T32 a (j : Int)).f7.f2) ((rd_T32 a (j : Int)).f7.f3) ((rd_T32 a (j : Int)).f8)).bind fun t377 => (if t375 > t377 then (some false) else (skirmishlaw48_NetKeeps.l1 k s a (wrap64 ((j : Int) + 1))))))) true := by
      refine Ev.bind (count_ev _ p hp a ha hal) (Ev.bind (count_ev _ p hp s hs hsl) ?_)
      have := hc p
      simp only [if_neg (show ¬ ((a.countP p : Nat) : Int) > ((s.countP p : Nat) : Int) by omega)]
      rw [wr _ (by omega) (by omega)]
      exact ih (j + 1) (by omega)
    refine Ev.step1 hall (fun k hk => ?_)
    simp only [skirmishlaw48_NetKeeps.l1]
    rw [if_pos (by omega), if_pos (by omega)]
    exact hk
theorem rd42 (l : List S42) (hg : ∀ y ∈ l, G42 y) (j : Nat) (h : j < l.length) : G42 (rd_T42 l (j : Int)) := by
  unfold rd_T42
  rw [Int.toNat_natCast, List.getD_eq_getElem?_getD, List.getElem?_eq_getElem h, Option.getD_some]
  exact hg _ (List.getElem_mem h)
/-- One step. -/
theorem j1_ev (l : List S42) (j : Nat) (jx : Int) (t s a : List S32) (o : S42) (hj : j ≤ 60) (hi : inv j t s a) (hG : G42 o) (hP : o.f2.length ≤ 20) (hx : wrap64 ((j : Int) + 1) = jx)
    (next : ∀ t' s' a', inv (j + 1) t' s' a' → Ev (fun k => skirmishlaw48_NetKeeps.l0 k l t' s' a' jx) true) : Ev (fun k => skirmishlaw48_NetKeeps.j1 k l t s a (j : Int) false o.f0 o.f1 o.f2) true := by
  have h1 := hi.1
  have h2 := hi.2.1
  have h3 := hi.2.2.1
  by_cases k1 : o.f0 = 1
  · have hI := inv_push hi hP hG.2.2.1
    have hl := hI.1
    refine Ev.two (push_ev t o.f2 (by omega) (by omega)) (next _ _ _ hI) (fun k e1 e2 => ?_)
    simp only [skirmishlaw48_NetKeeps.j1, Bool.false_eq_true, if_false, if_pos k1]
    rw [e1]
    simp only [Option.bind_some]
    rw [if_pos (by omega), if_neg (by omega), hx]
    exact e2
  · by_cases k2 : o.f0 = 2
    · by_cases h : 0 ≤ o.f1 ∧ o.f1 < (t.length : Int)
      · obtain ⟨m, hm⟩ := Int.eq_ofNat_of_zero_le h.1
        have hI := inv_deliver hi m (by omega)
        have hl := hI.1
        have he : err t (m : Int) = 0 := by unfold err; rw [if_pos (by omega)]
        refine Ev.step1 (next _ _ _ hI) (fun k e => ?_)
        simp only [skirmishlaw48_NetKeeps.j1, Bool.false_eq_true, if_false, if_neg k1, if_pos k2, hm, deliver_eq t (m : Int) (by omega), Option.bind_some, took, he, if_true]
        rw [if_pos (by omega), if_neg (by omega), hx]
        exact e
      · have he : err t o.f1 = 8 := by unfold err; rw [if_neg h]
        refine Ev.step1 (next t s a (inv_next hi)) (fun k e => ?_)
        simp only [skirmishlaw48_NetKeeps.j1, Bool.false_eq_true, if_false, if_neg k1, if_pos k2, deliver_eq t o.f1 (by omega), Option.bind_some, took, he]
        rw [if_neg (by decide), if_neg (by omega), hx]
        exact e
    · by_cases k3 : o.f0 = 3
      · by_cases h : 0 ≤ o.f1 ∧ o.f1 < (t.length : Int)
        · obtain ⟨m, hm⟩ := Int.eq_ofNat_of_zero_le h.1
          have hI := inv_drop hi m (by omega)
          have hl := hI.1
          have he : err t (m : Int) = 0 := by unfold err; rw [if_pos (by omega)]
          refine Ev.step1 (next _ _ _ hI) (fun k e => ?_)
          simp only [skirmishlaw48_NetKeeps.j1, Bool.false_eq_true, if_false, if_neg k1, if_neg k2, if_pos k3, hm, drop_eq t (m : Int) (by omega), Option.bind_some, he, if_true]
          rw [if_neg (by omega), hx]
          exact e
        · have he : err t o.f1 = 8 := by unfold err; rw [if_neg h]
          refine Ev.step1 (next t s a (inv_next hi)) (fun k e => ?_)
          simp only [skirmishlaw48_NetKeeps.j1, Bool.false_eq_true, if_false, if_neg k1, if_neg k2, if_pos k3, drop_eq t o.f1 (by omega), Option.bind_some, he]
          rw [if_neg (by decide), if_neg (by omega), hx]
          exact e
      · by_cases k4 : o.f0 = 4
        · have none_ : ∀ e : Int, ¬ e = 0 → dup t o.f1 = ([], e) → Ev (fun k => skirmishlaw48_NetKeeps.j1 k l t s a (j : Int) false o.f0 o.f1 o.f2) true := fun e h0 hd => by
            have hj2 : Ev (fun k => skirmishlaw48_NetKeeps.j2 k l t s a (j : Int) [] e false o.f0 o.f1 o.f2) true := Ev.step1 (next t s a (inv_next hi)) (fun k e => by
              simp only [skirmishlaw48_NetKeeps.j2, Bool.false_eq_true, if_false, if_neg h0]
              rw [if_neg (by omega), hx]
              exact e)
            refine Ev.step1 hj2 (fun k e => ?_)
            simp only [skirmishlaw48_NetKeeps.j1, Bool.false_eq_true, if_false, if_neg k1, if_neg k2, if_neg k3, if_pos k4, dup_eq t o.f1 (by omega), Option.bind_some, hd, if_neg h0]
            exact e
          by_cases h : 0 ≤ o.f1 ∧ o.f1 < (t.length : Int)
          · by_cases h5 : t.length ≥ 256
            · exact none_ 17 (by decide) (by unfold dup; rw [if_pos h, if_pos h5])
            · obtain ⟨m, hm⟩ := Int.eq_ofNat_of_zero_le h.1
              have hI := inv_dup hi m (by omega) (by omega)
              have hl := hI.1
              have hd : dup t (m : Int) = (t ++ [rd_T32 t (m : Int)], 0) := by unfold dup; rw [if_pos (by omega), if_neg h5]
              have hj2 : Ev (fun k => skirmishlaw48_NetKeeps.j2 k l t s a (j : Int) (t ++ [rd_T32 t (m : Int)]) 0 false o.f0 (m : Int) o.f2) true := Ev.step1 (next _ _ _ hI) (fun k e => by
                simp only [skirmishlaw48_NetKeeps.j2, Bool.false_eq_true, if_false, if_true]
                rw [if_pos (by omega), if_pos (by omega), if_pos (by omega), if_neg (by omega), hx]
                exact e)
              refine Ev.step1 hj2 (fun k e => ?_)
              simp only [skirmishlaw48_NetKeeps.j1, Bool.false_eq_true, if_false, if_neg k1, if_neg k2, if_neg k3, if_pos k4, hm, dup_eq t (m : Int) (by omega), Option.bind_some, hd, if_true]
              rw [if_neg (by omega), decide_eq_false (by omega)]
              exact e
          · exact none_ 8 (by decide) (by unfold dup; rw [if_neg h])
        · refine Ev.step1 (next t s a (inv_next hi)) (fun k e => ?_)
          simp only [skirmishlaw48_NetKeeps.j1, Bool.false_eq_true, if_false, if_neg k1, if_neg k2, if_neg k3, if_neg k4]
          rw [if_neg (by omega), hx]
          exact e
theorem l0_ev (l : List S42) (hg : ∀ y ∈ l, G42 y) (hl : l.length ≤ 60) : ∀ (n j : Nat) (t s a : List S32), j + n = l.length → inv j t s a → Ev (fun k => skirmishlaw48_NetKeeps.l0 k l t s a (j : Int)) true := by
  intro n
  induction n with
  | zero =>
    intro j t s a hj hi
    obtain ⟨h1, h2, h3, h4, h5, h6, h7⟩ := hi
    refine Ev.step1 (l1_ev s a h5 h6 (by omega) (by omega) (fun p => by have := h7 p; omega) a.length 0 (by omega)) (fun k hk => ?_)
    simp only [skirmishlaw48_NetKeeps.l0]
    rw [if_neg (by omega)]
    exact hk
  | succ n ih =>
    intro j t s a hj hi
    have hG := rd42 l hg j (by omega)
    have hT : Ev (fun k => skirmishlaw48_NetKeeps.j1 k l t s a (j : Int) true (rd_T42 l (j : Int)).f0 (rd_T42 l (j : Int)).f1 (rd_T42 l (j : Int)).f2) true := Ev.step1 (Ev.bind awake_ev (Ev.now true)) (fun k hk => by simp only [skirmishlaw48_NetKeeps.j1, if_true]; exact hk)
    by_cases hP : (((rd_T42 l (j : Int)).f2).length : Int) > 20
    · refine Ev.step1 hT (fun k hk => ?_)
      simp only [skirmishlaw48_NetKeeps.l0]
      rw [if_pos (by omega), if_pos (by omega), if_pos hP]
      exact hk
    · obtain ⟨b, hb, _⟩ := huge_ev (rd_T42 l (j : Int)).f2 hG.2.2.1 hG.2.2.2
      have hJ := j1_ev l j _ t s a (rd_T42 l (j : Int)) (by omega) hi hG (by omega) rfl (fun t' s' a' h => by
        rw [wr _ (by omega) (by omega)]
        exact ih (j + 1) t' s' a' (by omega) h)
      have hB : Ev (fun k => skirmishlaw48_NetKeeps.j1 k l t s a (j : Int) b (rd_T42 l (j : Int)).f0 (rd_T42 l (j : Int)).f1 (rd_T42 l (j : Int)).f2) true := by
        cases b with
        | true => exact hT
        | false => exact hJ
      refine Ev.two hb hB (fun k e1 e2 => ?_)
      simp only [skirmishlaw48_NetKeeps.l0]
      rw [if_pos (by omega), if_pos (by omega), if_neg hP, e1]
      exact e2
theorem NetKeeps (l : List S42) (hg : ∀ y ∈ l, G42 y) (hl : l.length ≤ maxLen) : ∃ k, skirmishlaw48_NetKeeps.f k l = some true := by
  refine Ev.rounds (g := fun k => skirmishlaw48_NetKeeps.f k l) ?_
  unfold skirmishlaw48_NetKeeps.f
  by_cases h : (l.length : Int) > 60
  · simp only [if_pos h]
    exact Ev.bind awake_ev (Ev.now true)
  · simp only [if_neg h]
    exact l0_ev l hg (by omega) l.length 0 [] [] [] (by omega) ⟨by simp, by simp, by simp, by simp, by simp, by simp, fun p => by simp⟩
end Go.Proofs.Ytcpnmlmghjhelaa.Pure
