/- What the functions that NetKeeps reaches come to, in plain words. -/
import Derived.Test.YtcpnmlmghjhelaaFx2
import Derived.Test.YtcpnmlmghjhelaaFx3
import Derived.Test.YtcpnmlmghjhelaaFx4
import Derived.Test.YtcpnmlmghjhelaaFx6
import Derived.Test.YtcpnmlmghjhelaaFxK
import Derived.Test.YtcpnmlmghjhelaaOpensK
namespace Go.Proofs.Ytcpnmlmghjhelaa.Pure
set_option linter.unusedVariables false
open Go.RowKit Go.Proofs.Ytcpnmlmghjhelaa.F Go.Proofs.Ytcpnmlmghjhelaa.Opens Go.Proofs.YtcpnmlmghjhelaaW.PrintWords Go.Proofs.YtcpnmlmghjhelaaW.PrintLast Go.Proofs.YtcpnmlmghjhelaaW.PrintMore

theorem wr (n : Int) (h0 : -9223372036854775808 ≤ n) (h1 : n ≤ 9223372036854775807) : wrap64 n = n := by unfold wrap64; omega
theorem Ev.step1 {α β : Type} {g : Nat → Option β} {f : Nat → Option α} {r : α} {q : β} (h : Ev f r) (e : ∀ k, f k = some r → g (k + 1) = some q) : Ev g q := by
  obtain ⟨K, hK⟩ := h
  refine ⟨K + 1, fun k hk => ?_⟩
  obtain ⟨k, rfl⟩ : ∃ m, k = m + 1 := ⟨k - 1, by omega⟩
  exact e k (hK k (by omega))
theorem Ev.in1 {α : Type} {g : Nat → Option α} {r : α} (e : ∀ k, g (k + 1) = some r) : Ev g r := Ev.step1 (Ev.now r) (fun k _ => e k)
theorem Ev.two {α β γ : Type} {g : Nat → Option α} {f : Nat → Option β} {h : Nat → Option γ} {a : α} {b : β} {c : γ} (hg : Ev g a) (hf : Ev f b) (e : ∀ k, g k = some a → f k = some b → h (k + 1) = some c) : Ev h c := by
  obtain ⟨K, hK⟩ := hg
  obtain ⟨L, hL⟩ := hf
  refine ⟨max K L + 1, fun k hk => ?_⟩
  obtain ⟨k, rfl⟩ : ∃ m, k = m + 1 := ⟨k - 1, by omega⟩
  exact e k (hK k (by omega)) (hL k (by omega))

theorem awake_ev : Ev (fun k => skirmishlaw48_awake.f k) true := Ev.of skirmishlaw48_awake.mono (k := 40) (by decide +kernel)

theorem rd49 (l : List S49) (hg : ∀ y ∈ l, G49 y) (j : Nat) (h : j < l.length) : G49 (rd_T49 l (j : Int)) := by
  unfold rd_T49
  rw [Int.toNat_natCast, List.getD_eq_getElem?_getD, List.getElem?_eq_getElem h, Option.getD_some]
  exact hg _ (List.getElem_mem h)
theorem rd32 (l : List S32) (hg : ∀ y ∈ l, G32 y) (j : Nat) (h : j < l.length) : G32 (rd_T32 l (j : Int)) := by
  unfold rd_T32
  rw [Int.toNat_natCast, List.getD_eq_getElem?_getD, List.getElem?_eq_getElem h, Option.getD_some]
  exact hg _ (List.getElem_mem h)

theorem huge_l1 (l : List S32) (m : Nat) (hm : m < l.length) (hc : (rd_T32 l (m : Int)).f7.f3.length ≤ maxLen) : ∀ (n j : Nat) (x : Int), j + n = (rd_T32 l (m : Int)).f7.f3.length →
    ∃ y, ∀ b, Ev (fun k => skirmishlaw48_huge.l0 k l y (wrap64 ((m : Int) + 1))) b → Ev (fun k => skirmishlaw48_huge.l1 k l x (m : Int) (j : Int)) b := by
  intro n
  unfold maxLen at hc
  induction n with
  | zero =>
    intro j x hj
    refine ⟨x, fun b hb => Ev.step1 hb (fun k hk => ?_)⟩
    simp only [skirmishlaw48_huge.l1]
    rw [if_pos (by omega), if_pos (by omega), if_neg (by omega)]
    exact hk
  | succ n ih =>
    intro j x hj
    obtain ⟨y, hy⟩ := ih (j + 1) (wrap64 (x + (wrap64 ((((rd_T49 ((rd_T32 l (m : Int)).f7.f3) (j : Int)).f2).length : Int) + (mn (((rd_T49 ((rd_T32 l (m : Int)).f7.f3) (j : Int)).f6).size : Int) 1000000))))) (by omega)
    refine ⟨y, fun b hb => Ev.step1 (hy b hb) (fun k hk => ?_)⟩
    simp only [skirmishlaw48_huge.l1]
    rw [if_pos (by omega), if_pos (by omega), if_pos (by omega), if_pos (by omega), wr ((j : Int) + 1) (by omega) (by omega)]
    exact hk
theorem huge_l0 (l : List S32) (hg : ∀ y ∈ l, G32 y) (hl : l.length ≤ maxLen) : ∀ (n j : Nat) (x : Int), j + n = l.length →
    ∃ b, Ev (fun k => skirmishlaw48_huge.l0 k l x (j : Int)) b ∧ (b = false → ∀ i, j ≤ i → i < l.length → i ≤ 600) := by
  intro n
  unfold maxLen at hl
  induction n with
  | zero =>
    intro j x hj
    refine ⟨decide (x > 100000), Ev.in1 (fun k => ?_), fun _ i h1 h2 => by omega⟩
    simp only [skirmishlaw48_huge.l0]
    rw [if_neg (by omega)]
  | succ n ih =>
    intro j x hj
    have hG := rd32 l hg j (by omega)
    have hc : (rd_T32 l (j : Int)).f7.f3.length ≤ maxLen := hG.2.2.2.2.2.2.2.1.2.2.2.2
    generalize hx : (wrap64 (x + (wrap64 ((1 + (mn (((rd_T32 l (j : Int)).f8).size : Int) 1000000)) + (((rd_T32 l (j : Int)).f7.f3).length : Int))))) = x'
    have huge_true : Ev (fun k => skirmishlaw48_huge.j1 k l x' (j : Int) true) true := Ev.in1 (fun k => by simp only [skirmishlaw48_huge.j1, if_true])
    by_cases h6 : (j : Int) > 600
    · refine ⟨true, Ev.step1 huge_true (fun k hk => ?_), fun h => by cases h⟩
      simp only [skirmishlaw48_huge.l0, hx]
      rw [if_pos (by omega), if_pos (by omega), if_pos h6]
      exact hk
    · by_cases h7 : x' > 100000
      · refine ⟨true, Ev.step1 huge_true (fun k hk => ?_), fun h => by cases h⟩
        simp only [skirmishlaw48_huge.l0, hx]
        rw [if_pos (by omega), if_pos (by omega), if_neg h6, decide_eq_true h7]
        exact hk
      · obtain ⟨y, hy⟩ := huge_l1 l j (by omega) hc _ 0 x' (Nat.zero_add _)
        obtain ⟨b, hb, hb2⟩ := ih (j + 1) y (by omega)
        have hb' : Ev (fun k => skirmishlaw48_huge.l0 k l y (wrap64 ((j : Int) + 1))) b := by rw [wr _ (by omega) (by omega)]; exact hb
        have h1 : Ev (fun k => skirmishlaw48_huge.j1 k l x' (j : Int) false) b := Ev.step1 (hy b hb') (fun k hk => by simp only [skirmishlaw48_huge.j1, Bool.false_eq_true, if_false]; exact hk)
        refine ⟨b, Ev.step1 h1 (fun k hk => ?_), fun h i h1 h2 => ?_⟩
        · simp only [skirmishlaw48_huge.l0, hx]
          rw [if_pos (by omega), if_pos (by omega), if_neg h6, decide_eq_false h7]
          exact hk
        · rcases Nat.lt_or_ge i (j + 1) with h3 | h3
          · omega
          · exact hb2 h i h3 h2
theorem huge_ev (l : List S32) (hg : ∀ y ∈ l, G32 y) (hl : l.length ≤ maxLen) : ∃ b, Ev (fun k => skirmishlaw48_huge.f k l) b ∧ (b = false → l.length ≤ 601) := by
  obtain ⟨b, hb, h2⟩ := huge_l0 l hg hl l.length 0 0 (by omega)
  refine ⟨b, hb, fun h => ?_⟩
  have := h2 h (l.length - 1)
  omega

theorem concat_ev (a b : List S32) (ha : a.length ≤ 601) (hb : b.length ≤ 601) : Ev (fun k => api_Packet_19.f k [a, b]) (a ++ b) := by
  refine ⟨8, fun k hk => ?_⟩
  obtain ⟨m, rfl⟩ : ∃ m, k = m + 8 := ⟨k - 8, by omega⟩
  have w0 : wrap64 (0 + (a.length : Int)) = (a.length : Int) := by rw [Int.zero_add]; exact wr _ (by omega) (by omega)
  have w1 : wrap64 ((a.length : Int) + (b.length : Int)) = ((a.length + b.length : Nat) : Int) := by rw [wr _ (by omega) (by omega)]; omega
  have w2 : wrap64 (0 + 1) = 1 := by unfold wrap64; omega
  have w3 : wrap64 (1 + 1) = 2 := by unfold wrap64; omega
  have r0 : rd_L10 [a, b] 0 = a := rfl
  have r1 : rd_L10 [a, b] 1 = b := rfl
  have n0 : ¬ ((a.length : Int) < 0) := by omega
  have n1 : ¬ (((a.length + b.length : Nat) : Int) < 0) := by omega
  have n2 : (0 : Int) ≤ ((a.length + b.length : Nat) : Int) ∧ ((a.length + b.length : Nat) : Int) < 1172812402961 := by omega
  have n3 : ([] : List S32).length + a.length < 1172812402961 := by simp; omega
  have n4 : ([] ++ a).length + b.length < 1172812402961 := by simp; omega
  have e2 : (([a, b] : List (List S32)).length : Int) = 2 := rfl
  show api_Packet_19.l0 (m + 7 + 1) [a, b] 0 [a, b] (([a, b] : List (List S32)).length : Int) 0 = _
  rw [e2]
  rw [api_Packet_19.l0, if_pos (by decide), if_pos (by decide), e2, if_pos (by decide), r0, w0, if_neg n0, w2]
  show api_Packet_19.l0 (m + 6 + 1) [a, b] _ [a, b] 2 1 = _
  rw [api_Packet_19.l0, if_pos (by decide), if_pos (by decide), e2, if_pos (by decide), r1, w1, if_neg n1, w3]
  show api_Packet_19.l0 (m + 5 + 1) [a, b] _ [a, b] 2 2 = _
  rw [api_Packet_19.l0, if_neg (by decide), if_pos n2, e2]
  show api_Packet_19.l1 (m + 4 + 1) [] [a, b] 2 0 = _
  rw [api_Packet_19.l1, if_pos (by decide), if_pos (by decide), e2, if_pos (by decide), r0, if_pos n3, w2]
  show api_Packet_19.l1 (m + 3 + 1) _ [a, b] 2 1 = _
  rw [api_Packet_19.l1, if_pos (by decide), if_pos (by decide), e2, if_pos (by decide), r1, if_pos n4, w3]
  show api_Packet_19.l1 (m + 2 + 1) _ [a, b] 2 2 = _
  rw [api_Packet_19.l1, if_neg (by decide), List.nil_append]

/-- How many packets find room. -/
def room (l m : List S32) : Nat := min (256 - l.length) m.length
theorem push_ev (l m : List S32) (hl : l.length ≤ 601) (hm : m.length ≤ 601) : Ev (fun k => net_Push.f k l m) (l ++ m.take (room l m)) := by
  unfold net_Push.f
  have e : mn (mx (wrap64 (256 - (l.length : Int))) 0) (m.length : Int) = ((room l m : Nat) : Int) := by
    rw [wr _ (by omega) (by omega)]
    unfold mn mx room
    omega
  have h : room l m ≤ m.length := Nat.min_le_right _ _
  simp only [e, if_pos (show (0 : Int) ≤ ((room l m : Nat) : Int) by omega), if_pos (show ((room l m : Nat) : Int) ≤ (m.length : Int) by omega), Int.toNat_natCast]
  exact Ev.bind (concat_ev l (m.take (room l m)) hl (by rw [List.length_take]; omega)) (Ev.now _)
theorem without_eq (l : List S32) (a : Int) (hl : l.length ≤ 601) (h0 : 0 ≤ a) (h1 : a < (l.length : Int)) : net_without.f l a = some (l.take a.toNat ++ l.drop (a + 1).toNat) := by
  unfold net_without.f
  simp only [Option.bind_some, wr (a + 1) (by omega) (by omega), List.nil_append, List.length_nil, Nat.zero_add]
  rw [if_pos h0, if_pos (by omega), if_pos (by rw [List.length_take]; omega), if_pos (by omega), if_pos (by omega), if_pos (by rw [List.length_take, List.length_drop]; omega)]
/-- The packet that Deliver takes, the packets that are left, the error. -/
def pick (l : List S32) (a : Int) : S32 := if 0 ≤ a ∧ a < (l.length : Int) then rd_T32 l a else ⟨0, 0, 0, 0, 0, 0, 0, ⟨0, 0, 0, []⟩, ⟨#[]⟩⟩
def left (l : List S32) (a : Int) : List S32 := if 0 ≤ a ∧ a < (l.length : Int) then l.take a.toNat ++ l.drop (a + 1).toNat else []
def err (l : List S32) (a : Int) : Int := if 0 ≤ a ∧ a < (l.length : Int) then 0 else 8
def took (l : List S32) (a : Int) : Int × Int × Int × Int × Int × Int × Int × Int × Int × Int × (List (S49)) × ByteArray × (List (S32)) × Int :=
  ((pick l a).f0, (pick l a).f1, (pick l a).f2, (pick l a).f3, (pick l a).f4, (pick l a).f5, (pick l a).f6, (pick l a).f7.f0, (pick l a).f7.f1, (pick l a).f7.f2, (pick l a).f7.f3, (pick l a).f8, left l a, err l a)
theorem has_eq (l : List S32) (a : Int) : net_has.f l a = some (decide (0 ≤ a ∧ a < (l.length : Int))) := by
  unfold net_has.f
  by_cases h0 : a ≥ 0
  · rw [if_pos h0]
    have : (0 ≤ a ∧ a < (l.length : Int)) ↔ a < (l.length : Int) := by omega
    simp only [this]
  · rw [if_neg h0, decide_eq_false (by omega)]
theorem deliver_eq (l : List S32) (a : Int) (hl : l.length ≤ 601) : net_Deliver.f l a = some (took l a) := by
  unfold net_Deliver.f took pick left err
  rw [has_eq, Option.bind_some]
  by_cases h : 0 ≤ a ∧ a < (l.length : Int)
  · simp only [h, and_self, decide_true, if_true, without_eq l a hl h.1 h.2, Option.bind_some]
  · simp only [decide_eq_false h, Bool.false_eq_true, if_false, if_neg h]
theorem drop_eq (l : List S32) (a : Int) (hl : l.length ≤ 601) : net_Drop.f l a = some (left l a, err l a) := by
  unfold net_Drop.f left err
  rw [has_eq, Option.bind_some]
  by_cases h : 0 ≤ a ∧ a < (l.length : Int)
  · simp only [h, and_self, decide_true, if_true, without_eq l a hl h.1 h.2, Option.bind_some]
  · simp only [decide_eq_false h, Bool.false_eq_true, if_false, if_neg h]
theorem zero32 : G32 ⟨0, 0, 0, 0, 0, 0, 0, ⟨0, 0, 0, []⟩, ⟨#[]⟩⟩ := by
  refine ⟨by decide, by decide, by decide, by decide, by decide, by decide, by decide, ⟨by decide, by decide, by decide, ?_⟩, ?_⟩
  · exact ⟨fun y h => by simp at h, by simp⟩
  · show ByteArray.size _ ≤ maxLen
    unfold maxLen
    decide
theorem pick_ok (l : List S32) (hg : ∀ y ∈ l, G32 y) (a : Int) : G32 (pick l a) := by
  unfold pick
  split
  · rename_i h
    obtain ⟨n, rfl⟩ := Int.eq_ofNat_of_zero_le h.1
    exact rd32 l hg n (by omega)
  · exact zero32
theorem left_ok (l : List S32) (hg : ∀ y ∈ l, G32 y) (hl : l.length ≤ 601) (a : Int) : (∀ y ∈ left l a, G32 y) ∧ (left l a).length ≤ maxLen := by
  unfold left maxLen
  split
  · refine ⟨fun y hy => ?_, ?_⟩
    · rcases List.mem_append.1 hy with h | h
      · exact hg y (List.mem_of_mem_take h)
      · exact hg y (List.mem_of_mem_drop h)
    · rw [List.length_append, List.length_take, List.length_drop]
      omega
  · exact ⟨fun y hy => by simp at hy, by simp⟩
/-- The list behind Duplicate, and the error. -/
def dup (l : List S32) (a : Int) : List S32 × Int :=
  if 0 ≤ a ∧ a < (l.length : Int) then (if l.length ≥ 256 then ([], 17) else (l ++ [rd_T32 l a], 0)) else ([], 8)
theorem dup_eq (l : List S32) (a : Int) (hl : l.length ≤ 601) : net_Duplicate.f l a = some (dup l a) := by
  unfold net_Duplicate.f net_has.f dup
  by_cases h0 : a ≥ 0
  · rw [if_pos h0]
    simp only [Option.bind_some]
    by_cases h1 : a < (l.length : Int)
    · have hd : 0 ≤ a ∧ a < (l.length : Int) := ⟨h0, h1⟩
      simp only [decide_eq_true h1, if_true, if_pos hd]
      by_cases h2 : l.length ≥ 256
      · rw [if_pos (by omega), if_pos h2]
      · rw [if_neg (by omega), if_neg h2]
        unfold api_Packet_23.f
        simp only [Option.bind_some, List.nil_append, List.length_nil, Nat.zero_add, if_pos (show l.length < 1172812402961 by omega)]
        rw [if_pos (by omega), if_pos h1, if_pos (by simp; omega)]
    · have hd : ¬ (0 ≤ a ∧ a < (l.length : Int)) := by omega
      simp only [decide_eq_false h1, Bool.false_eq_true, if_false, if_neg hd]
  · have hd : ¬ (0 ≤ a ∧ a < (l.length : Int)) := by omega
    rw [if_neg h0]
    simp only [Option.bind_some, Bool.false_eq_true, if_false, if_neg hd]

/-! two packets held against each other: an answer comes -/
theorem ev_ite {c : Prop} [Decidable c] {A B : Nat → Option Bool} (h1 : c → ∃ b, Ev A b) (h2 : ¬ c → ∃ b, Ev B b) : ∃ b, Ev (fun k => if c then A k else B k) b := by
  by_cases h : c
  · obtain ⟨b, hb⟩ := h1 h
    refine ⟨b, ?_⟩
    simp only [if_pos h]
    exact hb
  · obtain ⟨b, hb⟩ := h2 h
    refine ⟨b, ?_⟩
    simp only [if_neg h]
    exact hb
theorem ev_bind {A : Nat → Option Bool} (h : ∃ b, Ev A b) : ∃ b, Ev (fun k => (A k).bind fun t => some t) b := by
  obtain ⟨b, hb⟩ := h
  exact ⟨b, Ev.bind hb (Ev.now b)⟩
theorem s34_l0 (a0 a1 a3 a4 a5 a6 b0 b1 b3 b4 b5 b6 : Int) (u v : List Int) (s s' : ByteArray) (x x' : Bool) (hu : u.length ≤ maxLen) (hv : u.length = v.length) : ∀ (n j : Nat), j + n = u.length →
    ∃ b, Ev (fun k => skirmishref34_Same.l0 k (j : Int) a0 a1 u a3 a4 a5 a6 s x b0 b1 v b3 b4 b5 b6 s' x') b := by
  intro n
  unfold maxLen at hu
  induction n with
  | zero =>
    intro j hj
    refine ⟨true, Ev.in1 (fun k => ?_)⟩
    simp only [skirmishref34_Same.l0]
    rw [if_neg (by omega)]
  | succ n ih =>
    intro j hj
    by_cases h : rd u (j : Int) = rd v (j : Int)
    · obtain ⟨b, hb⟩ := ih (j + 1) (by omega)
      refine ⟨b, Ev.step1 hb (fun k hk => ?_)⟩
      simp only [skirmishref34_Same.l0]
      rw [if_pos (by omega), if_pos (by omega), if_pos (by omega), if_pos h, wr _ (by omega) (by omega)]
      exact hk
    · refine ⟨false, Ev.in1 (fun k => ?_)⟩
      simp only [skirmishref34_Same.l0]
      rw [if_pos (by omega), if_pos (by omega), if_pos (by omega), if_neg h]
theorem s34_ex (a0 a1 a3 a4 a5 a6 b0 b1 b3 b4 b5 b6 : Int) (u v : List Int) (s s' : ByteArray) (x x' : Bool) (hu : u.length ≤ maxLen) : ∃ b, Ev (fun k => skirmishref34_Same.f k a0 a1 u a3 a4 a5 a6 s x b0 b1 v b3 b4 b5 b6 s' x') b := by
  have hT : ∃ b, Ev (fun k => skirmishref34_Same.j0 k true a0 a1 u a3 a4 a5 a6 s x b0 b1 v b3 b4 b5 b6 s' x') b := ⟨false, Ev.in1 (fun k => by simp only [skirmishref34_Same.j0, if_true])⟩
  have hJ : ∃ b, Ev (fun k => skirmishref34_Same.j0 k ((u.length : Int) != (v.length : Int)) a0 a1 u a3 a4 a5 a6 s x b0 b1 v b3 b4 b5 b6 s' x') b := by
    by_cases h : u.length = v.length
    · obtain ⟨b, hb⟩ := s34_l0 a0 a1 a3 a4 a5 a6 b0 b1 b3 b4 b5 b6 u v s s' x x' hu h u.length 0 (by omega)
      refine ⟨b, Ev.step1 hb (fun k hk => ?_)⟩
      simp only [skirmishref34_Same.j0, h, bne_self_eq_false, Bool.false_eq_true, if_false]
      exact hk
    · rw [show ((u.length : Int) != (v.length : Int)) = true from bne_iff_ne.2 (by omega)]
      exact hT
  unfold skirmishref34_Same.f
  repeat' refine ev_ite (fun _ => ?_) (fun _ => ?_)
  all_goals first | exact hT | exact hJ
theorem scmd_l0 (l m : List S49) (hg : ∀ y ∈ l, G49 y) (hl : l.length ≤ maxLen) (hm : l.length = m.length) : ∀ (n j : Nat), j + n = l.length → ∃ b, Ev (fun k => skirmishref46_SameCommands.l0 k l m (j : Int)) b := by
  intro n
  unfold maxLen at hl
  induction n with
  | zero =>
    intro j hj
    refine ⟨true, Ev.in1 (fun k => ?_)⟩
    simp only [skirmishref46_SameCommands.l0]
    rw [if_neg (by omega)]
  | succ n ih =>
    intro j hj
    obtain ⟨c, hc⟩ := s34_ex (rd_T49 l (j : Int)).f0 (rd_T49 l (j : Int)).f1 (rd_T49 l (j : Int)).f3.f0 (rd_T49 l (j : Int)).f3.f1 (rd_T49 l (j : Int)).f4 (rd_T49 l (j : Int)).f5 (rd_T49 m (j : Int)).f0 (rd_T49 m (j : Int)).f1 (rd_T49 m (j : Int)).f3.f0 (rd_T49 m (j : Int)).f3.f1 (rd_T49 m (j : Int)).f4 (rd_T49 m (j : Int)).f5 (rd_T49 l (j : Int)).f2 (rd_T49 m (j : Int)).f2 (rd_T49 l (j : Int)).f6 (rd_T49 m (j : Int)).f6 (rd_T49 l (j : Int)).f7 (rd_T49 m (j : Int)).f7 (rd49 l hg j (by omega)).2.2.1.2
    cases c with
    | true =>
      obtain ⟨b, hb⟩ := ih (j + 1) (by omega)
      refine ⟨b, Ev.two hc hb (fun k h1 h2 => ?_)⟩
      simp only [skirmishref46_SameCommands.l0]
      rw [if_pos (by omega), if_pos (by omega), if_pos (by omega), h1]
      simp only [Option.bind_some, if_true]
      rw [wr _ (by omega) (by omega)]
      exact h2
    | false =>
      refine ⟨false, Ev.two hc (Ev.now true) (fun k h1 _ => ?_)⟩
      simp only [skirmishref46_SameCommands.l0]
      rw [if_pos (by omega), if_pos (by omega), if_pos (by omega), h1]
      rfl
theorem packet_ex (x y : S32) (hx : G32 x) : ∃ b, Ev (fun k => skirmishref47_SamePacket.f k x.f0 x.f1 x.f2 x.f3 x.f4 x.f5 x.f6 x.f7.f0 x.f7.f1 x.f7.f2 x.f7.f3 x.f8 y.f0 y.f1 y.f2 y.f3 y.f4 y.f5 y.f6 y.f7.f0 y.f7.f1 y.f7.f2 y.f7.f3 y.f8) b := by
  have hF : ∃ b : Bool, Ev (fun _ => some false) b := ⟨false, Ev.now false⟩
  have hc : ∃ b, Ev (fun k => skirmishref46_SameCommands.f k x.f7.f3 y.f7.f3) b := by
    unfold skirmishref46_SameCommands.f
    refine ev_ite (fun h => ?_) (fun _ => hF)
    exact scmd_l0 x.f7.f3 y.f7.f3 hx.2.2.2.2.2.2.2.1.2.2.2.1 hx.2.2.2.2.2.2.2.1.2.2.2.2 (by omega) _ 0 (Nat.zero_add _)
  have hs : ∃ b, Ev (fun k => skirmishref46_Same.f k x.f7.f0 x.f7.f1 x.f7.f2 x.f7.f3 y.f7.f0 y.f7.f1 y.f7.f2 y.f7.f3) b := by
    unfold skirmishref46_Same.f
    exact ev_ite (fun _ => ev_ite (fun _ => ev_ite (fun _ => ev_bind hc) (fun _ => hF)) (fun _ => hF)) (fun _ => hF)
  unfold skirmishref47_SamePacket.f
  exact ev_ite (fun _ => ev_ite (fun _ => ev_ite (fun _ => ev_ite (fun _ => ev_ite (fun _ => ev_ite (fun _ => ev_ite (fun _ => ev_ite (fun _ => ev_bind hs) (fun _ => hF)) (fun _ => hF)) (fun _ => hF)) (fun _ => hF)) (fun _ => hF)) (fun _ => hF)) (fun _ => hF)) (fun _ => hF)
/-- For one packet: whether each other is the same. -/
theorem packet_p (y : S32) : ∃ p : S32 → Bool, ∀ x, G32 x → Ev (fun k => skirmishref47_SamePacket.f k x.f0 x.f1 x.f2 x.f3 x.f4 x.f5 x.f6 x.f7.f0 x.f7.f1 x.f7.f2 x.f7.f3 x.f8 y.f0 y.f1 y.f2 y.f3 y.f4 y.f5 y.f6 y.f7.f0 y.f7.f1 y.f7.f2 y.f7.f3 y.f8) (p x) := by
  refine Classical.axiomOfChoice (r := fun (x : S32) (b : Bool) => G32 x → Ev (fun k => skirmishref47_SamePacket.f k x.f0 x.f1 x.f2 x.f3 x.f4 x.f5 x.f6 x.f7.f0 x.f7.f1 x.f7.f2 x.f7.f3 x.f8 y.f0 y.f1 y.f2 y.f3 y.f4 y.f5 y.f6 y.f7.f0 y.f7.f1 y.f7.f2 y.f7.f3 y.f8) b) (fun x => ?_)
  by_cases hx : G32 x
  · obtain ⟨b, hb⟩ := packet_ex x y hx
    exact ⟨b, fun _ => hb⟩
  · exact ⟨false, fun h => absurd h hx⟩
theorem count_l0 (y : S32) (p : S32 → Bool) (hp : ∀ x, G32 x → Ev (fun k => skirmishref47_SamePacket.f k x.f0 x.f1 x.f2 x.f3 x.f4 x.f5 x.f6 x.f7.f0 x.f7.f1 x.f7.f2 x.f7.f3 x.f8 y.f0 y.f1 y.f2 y.f3 y.f4 y.f5 y.f6 y.f7.f0 y.f7.f1 y.f7.f2 y.f7.f3 y.f8) (p x)) (l : List S32) (hg : ∀ x ∈ l, G32 x) (hl : l.length ≤ 100000) :
    ∀ (n j c : Nat), j + n = l.length → c ≤ j → Ev (fun k => skirmishlaw48_count.l0 k l (c : Int) (j : Int) y.f0 y.f1 y.f2 y.f3 y.f4 y.f5 y.f6 y.f7.f0 y.f7.f1 y.f7.f2 y.f7.f3 y.f8) ((c + (l.drop j).countP p : Nat) : Int) := by
  intro n
  induction n with
  | zero =>
    intro j c hj _
    refine Ev.in1 (fun k => ?_)
    simp only [skirmishlaw48_count.l0]
    rw [if_neg (by omega), List.drop_eq_nil_of_le (by omega)]
    rfl
  | succ n ih =>
    intro j c hj hc
    have hjl : j < l.length := by omega
    have hr : rd_T32 l (j : Int) = l[j] := by
      unfold rd_T32
      rw [Int.toNat_natCast, List.getD_eq_getElem?_getD, List.getElem?_eq_getElem hjl, Option.getD_some]
    have h0 := hp l[j] (hg _ (List.getElem_mem hjl))
    rw [List.drop_eq_getElem_cons hjl]
    cases hv : p l[j] with
    | true =>
      rw [hv] at h0
      have h2 := ih (j + 1) (c + 1) (by omega) (by omega)
      rw [show c + (l[j] :: l.drop (j + 1)).countP p = c + 1 + (l.drop (j + 1)).countP p by rw [List.countP_cons_of_pos hv]; omega]
      refine Ev.two h0 h2 (fun k h1 h2 => ?_)
      simp only [skirmishlaw48_count.l0, hr]
      rw [if_pos (by omega), if_pos (by omega), h1]
      simp only [Option.bind_some, if_true]
      rw [wr ((c : Int) + 1) (by omega) (by omega), wr ((j : Int) + 1) (by omega) (by omega)]
      exact h2
    | false =>
      rw [hv] at h0
      have h2 := ih (j + 1) c (by omega) (by omega)
      rw [show c + (l[j] :: l.drop (j + 1)).countP p = c + (l.drop (j + 1)).countP p by rw [List.countP_cons_of_neg (by rw [hv]; decide)]]
      refine Ev.two h0 h2 (fun k h1 h2 => ?_)
      simp only [skirmishlaw48_count.l0, hr]
      rw [if_pos (by omega), if_pos (by omega), h1]
      simp only [Option.bind_some, Bool.false_eq_true, if_false]
      rw [wr ((j : Int) + 1) (by omega) (by omega)]
      exact h2
end Go.Proofs.Ytcpnmlmghjhelaa.Pure
