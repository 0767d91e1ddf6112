/- net.Push adds what the reference's Push adds: for all lists. -/
import Derived.Test.YtcpnmlmghjhelaaNetLib
namespace Go.Proofs.Ytcpnmlmghjhelaa.Pure
open Go.RowKit Go.Proofs.Ytcpnmlmghjhelaa.F Go.Proofs.Ytcpnmlmghjhelaa.Opens Go.Proofs.YtcpnmlmghjhelaaW.PrintWords Go.Proofs.YtcpnmlmghjhelaaW.PrintLast Go.Proofs.YtcpnmlmghjhelaaW.PrintMore

theorem concat_ev (a b : List S32) (ha : a.length ≤ 601) (hb : b.length ≤ 601) : Ev (fun k => api_Packet_19.f k [a, b]) (a ++ b) := by
  refine ⟨8, fun k hk => ?_⟩
  obtain ⟨m, rfl⟩ : ∃ m, k = m + 8 := ⟨k - 8, by omega⟩
  have w0 : wrap64 (0 + (a.length : Int)) = (a.length : Int) := by rw [Int.zero_add]; exact wr _ (by omega) (by omega)
  have w1 : wrap64 ((a.length : Int) + (b.length : Int)) = ((a.length + b.length : Nat) : Int) := by rw [wr _ (by omega) (by omega)]; omega
  have w2 : wrap64 (0 + 1) = 1 := by unfold wrap64; omega
  have w3 : wrap64 (1 + 1) = 2 := by unfold wrap64; omega
  have r0 : rd_L10 [a, b] 0 = a := rfl
  have r1 : rd_L10 [a, b] 1 = b := rfl
  have n0 : ¬ ((a.length : Int) < 0) := by omega
  have n1 : ¬ (((a.length + b.length : Nat) : Int) < 0) := by omega
  have n2 : (0 : Int) ≤ ((a.length + b.length : Nat) : Int) ∧ ((a.length + b.length : Nat) : Int) < 1172812402961 := by omega
  have n3 : ([] : List S32).length + a.length < 1172812402961 := by simp; omega
  have n4 : ([] ++ a).length + b.length < 1172812402961 := by simp; omega
  have e2 : (([a, b] : List (List S32)).length : Int) = 2 := rfl
  show api_Packet_19.l0 (m + 7 + 1) [a, b] 0 [a, b] (([a, b] : List (List S32)).length : Int) 0 = _
  rw [e2]
  rw [api_Packet_19.l0, if_pos (by decide), if_pos (by decide), e2, if_pos (by decide), r0, w0, if_neg n0, w2]
  show api_Packet_19.l0 (m + 6 + 1) [a, b] _ [a, b] 2 1 = _
  rw [api_Packet_19.l0, if_pos (by decide), if_pos (by decide), e2, if_pos (by decide), r1, w1, if_neg n1, w3]
  show api_Packet_19.l0 (m + 5 + 1) [a, b] _ [a, b] 2 2 = _
  rw [api_Packet_19.l0, if_neg (by decide), if_pos n2, e2]
  show api_Packet_19.l1 (m + 4 + 1) [] [a, b] 2 0 = _
  rw [api_Packet_19.l1, if_pos (by decide), if_pos (by decide), e2, if_pos (by decide), r0, if_pos n3, w2]
  show api_Packet_19.l1 (m + 3 + 1) _ [a, b] 2 1 = _
  rw [api_Packet_19.l1, if_pos (by decide), if_pos (by decide), e2, if_pos (by decide), r1, if_pos n4, w3]
  show api_Packet_19.l1 (m + 2 + 1) _ [a, b] 2 2 = _
  rw [api_Packet_19.l1, if_neg (by decide), List.nil_append]

/-- How many packets find room. -/
def room (l m : List S32) : Nat := min (256 - l.length) m.length
theorem push_ev (l m : List S32) (hl : l.length ≤ 601) (hm : m.length ≤ 601) : Ev (fun k => net_Push.f k l m) (l ++ m.take (room l m)) := by
  unfold net_Push.f
  have e : mn (mx (wrap64 (256 - (l.length : Int))) 0) (m.length : Int) = ((room l m : Nat) : Int) := by
    rw [wr _ (by omega) (by omega)]
    unfold mn mx room
    omega
  have h : room l m ≤ m.length := Nat.min_le_right _ _
  simp only [e, if_pos (show (0 : Int) ≤ ((room l m : Nat) : Int) by omega), if_pos (show ((room l m : Nat) : Int) ≤ (m.length : Int) by omega), Int.toNat_natCast]
  exact Ev.bind (concat_ev l (m.take (room l m)) hl (by rw [List.length_take]; omega)) (Ev.now _)
theorem take_one (m : List S32) (j : Nat) (h : j < m.length) : m.take (j + 1) = m.take j ++ [rd_T32 m (j : Int)] := by
  unfold rd_T32
  rw [Int.toNat_natCast, List.getD_eq_getElem?_getD, List.getElem?_eq_getElem h, Option.getD_some, List.take_add_one, List.getElem?_eq_getElem h]
  rfl
theorem ref_push_l0 (l m : List S32) (hl : l.length ≤ 601) (hm : m.length ≤ 601) : ∀ (n j : Nat), j + n = m.length →
    Ev (fun k => skirmishref48_Push.l0 k m (l ++ m.take (min j (256 - l.length))) (j : Int)) (l ++ m.take (room l m)) := by
  intro n
  induction n with
  | zero =>
    intro j hj
    refine Ev.in1 (fun k => ?_)
    simp only [skirmishref48_Push.l0]
    rw [if_neg (by omega), show min j (256 - l.length) = room l m by unfold room; omega]
  | succ n ih =>
    intro j hj
    refine Ev.step1 (ih (j + 1) (by omega)) (fun k hk => ?_)
    have hlen : (l ++ m.take (min j (256 - l.length))).length = l.length + min j (256 - l.length) := by rw [List.length_append, List.length_take]; omega
    simp only [skirmishref48_Push.l0]
    rw [if_pos (by omega), hlen]
    by_cases h : l.length + min j (256 - l.length) < 256
    · rw [if_pos (by omega), if_pos (by omega), if_pos (by omega), wr _ (by omega) (by omega)]
      have e1 : min j (256 - l.length) = j := by omega
      have e2 : min (j + 1) (256 - l.length) = j + 1 := by omega
      rw [e2, take_one m j (by omega), ← List.append_assoc] at hk
      rw [e1]
      exact hk
    · rw [if_neg (by omega), wr _ (by omega) (by omega)]
      have e2 : min (j + 1) (256 - l.length) = min j (256 - l.length) := by omega
      rw [e2] at hk
      exact hk
theorem ref_push_ev (l m : List S32) (hl : l.length ≤ 601) (hm : m.length ≤ 601) : Ev (fun k => skirmishref48_Push.f k l m) (l ++ m.take (room l m)) := by
  unfold skirmishref48_Push.f
  simp only [Option.bind_some, List.nil_append, List.length_nil, Nat.zero_add, if_pos (show l.length < 1172812402961 by omega)]
  have h := ref_push_l0 l m hl hm m.length 0 (by omega)
  rw [Nat.zero_min, List.take_zero, List.append_nil] at h
  exact h
theorem NetPushes (l : List S32) (hg : ∀ y ∈ l, G32 y) (hl : l.length ≤ maxLen) (m : List S32) (hgm : ∀ y ∈ m, G32 y) (hm : m.length ≤ maxLen) : ∃ k, skirmishlaw48_NetPushes.f k l m = some true := by
  refine Ev.rounds (g := fun k => skirmishlaw48_NetPushes.f k l m) ?_
  have hj : Ev (fun k => skirmishlaw48_NetPushes.j0 k l m true) true := Ev.step1 (Ev.bind awake_ev (Ev.now true)) (fun k hk => by simp only [skirmishlaw48_NetPushes.j0, if_true]; exact hk)
  obtain ⟨b, hb, hb2⟩ := huge_ev l hg hl
  obtain ⟨c, hc, hc2⟩ := huge_ev m hgm hm
  unfold skirmishlaw48_NetPushes.f
  refine Ev.bind hb ?_
  cases b with
  | true => simp only [if_true]; exact hj
  | false =>
    simp only [Bool.false_eq_true, if_false]
    refine Ev.bind hc ?_
    cases c with
    | true => exact hj
    | false =>
      have h1 := hb2 rfl
      have h2 := hc2 rfl
      have hs := same_ev (l ++ m.take (room l m)) (fun y hy => by
        rcases List.mem_append.1 hy with h | h
        · exact hg y h
        · exact hgm y (List.mem_of_mem_take h)) (by rw [List.length_append, List.length_take]; unfold maxLen; omega)
      have hall : Ev (fun k => ((net_Push.f k l m).bind fun t242 => ((skirmishref48_Push.f k l m).bind fun t245 => ((skirmishlaw48_same.f k t242 t245).bind fun t248 => (if t248 = true then ((skirmishlaw48_awake.f k).bind fun t249 => (some t249)) else (some false)))))) true := by
        refine Ev.bind (push_ev l m h1 h2) (Ev.bind (ref_push_ev l m h1 h2) (Ev.bind hs ?_))
        simp only [if_true]
        exact Ev.bind awake_ev (Ev.now true)
      exact Ev.step1 hall (fun k hk => by simp only [skirmishlaw48_NetPushes.j0, Bool.false_eq_true, if_false]; exact hk)
end Go.Proofs.Ytcpnmlmghjhelaa.Pure
