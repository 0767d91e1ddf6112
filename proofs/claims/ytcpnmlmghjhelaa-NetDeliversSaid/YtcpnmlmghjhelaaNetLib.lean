/- What the functions of net and of its reference come to, in plain words. -/
import Derived.Test.YtcpnmlmghjhelaaFx2
import Derived.Test.YtcpnmlmghjhelaaFx4
import Derived.Test.YtcpnmlmghjhelaaFx6
import Derived.Test.YtcpnmlmghjhelaaFx7
import Derived.Test.YtcpnmlmghjhelaaOpensT
namespace Go.Proofs.Ytcpnmlmghjhelaa.Pure
set_option linter.unusedVariables false
open Go.RowKit Go.Proofs.Ytcpnmlmghjhelaa.F Go.Proofs.Ytcpnmlmghjhelaa.Opens Go.Proofs.YtcpnmlmghjhelaaW.PrintWords Go.Proofs.YtcpnmlmghjhelaaW.PrintLast Go.Proofs.YtcpnmlmghjhelaaW.PrintMore

theorem wr (n : Int) (h0 : -9223372036854775808 ≤ n) (h1 : n ≤ 9223372036854775807) : wrap64 n = n := by unfold wrap64; omega
theorem Ev.step1 {α β : Type} {g : Nat → Option β} {f : Nat → Option α} {r : α} {q : β} (h : Ev f r) (e : ∀ k, f k = some r → g (k + 1) = some q) : Ev g q := by
  obtain ⟨K, hK⟩ := h
  refine ⟨K + 1, fun k hk => ?_⟩
  obtain ⟨k, rfl⟩ : ∃ m, k = m + 1 := ⟨k - 1, by omega⟩
  exact e k (hK k (by omega))
theorem Ev.in1 {α : Type} {g : Nat → Option α} {r : α} (e : ∀ k, g (k + 1) = some r) : Ev g r := Ev.step1 (Ev.now r) (fun k _ => e k)
theorem Ev.two {α β γ : Type} {g : Nat → Option α} {f : Nat → Option β} {h : Nat → Option γ} {a : α} {b : β} {c : γ} (hg : Ev g a) (hf : Ev f b) (e : ∀ k, g k = some a → f k = some b → h (k + 1) = some c) : Ev h c := by
  obtain ⟨K, hK⟩ := hg
  obtain ⟨L, hL⟩ := hf
  refine ⟨max K L + 1, fun k hk => ?_⟩
  obtain ⟨k, rfl⟩ : ∃ m, k = m + 1 := ⟨k - 1, by omega⟩
  exact e k (hK k (by omega)) (hL k (by omega))

theorem awake_ev : Ev (fun k => skirmishlaw48_awake.f k) true := Ev.of skirmishlaw48_awake.mono (k := 40) (by decide +kernel)

theorem rd49 (l : List S49) (hg : ∀ y ∈ l, G49 y) (j : Nat) (h : j < l.length) : G49 (rd_T49 l (j : Int)) := by
  unfold rd_T49
  rw [Int.toNat_natCast, List.getD_eq_getElem?_getD, List.getElem?_eq_getElem h, Option.getD_some]
  exact hg _ (List.getElem_mem h)
theorem rd32 (l : List S32) (hg : ∀ y ∈ l, G32 y) (j : Nat) (h : j < l.length) : G32 (rd_T32 l (j : Int)) := by
  unfold rd_T32
  rw [Int.toNat_natCast, List.getD_eq_getElem?_getD, List.getElem?_eq_getElem h, Option.getD_some]
  exact hg _ (List.getElem_mem h)

theorem huge_l1 (l : List S32) (m : Nat) (hm : m < l.length) (hc : (rd_T32 l (m : Int)).f7.f3.length ≤ maxLen) : ∀ (n j : Nat) (x : Int), j + n = (rd_T32 l (m : Int)).f7.f3.length →
    ∃ y, ∀ b, Ev (fun k => skirmishlaw48_huge.l0 k l y (wrap64 ((m : Int) + 1))) b → Ev (fun k => skirmishlaw48_huge.l1 k l x (m : Int) (j : Int)) b := by
  intro n
  unfold maxLen at hc
  induction n with
  | zero =>
    intro j x hj
    refine ⟨x, fun b hb => Ev.step1 hb (fun k hk => ?_)⟩
    simp only [skirmishlaw48_huge.l1]
    rw [if_pos (by omega), if_pos (by omega), if_neg (by omega)]
    exact hk
  | succ n ih =>
    intro j x hj
    obtain ⟨y, hy⟩ := ih (j + 1) (wrap64 (x + (wrap64 ((((rd_T49 ((rd_T32 l (m : Int)).f7.f3) (j : Int)).f2).length : Int) + (mn (((rd_T49 ((rd_T32 l (m : Int)).f7.f3) (j : Int)).f6).size : Int) 1000000))))) (by omega)
    refine ⟨y, fun b hb => Ev.step1 (hy b hb) (fun k hk => ?_)⟩
    simp only [skirmishlaw48_huge.l1]
    rw [if_pos (by omega), if_pos (by omega), if_pos (by omega), if_pos (by omega), wr ((j : Int) + 1) (by omega) (by omega)]
    exact hk
theorem huge_l0 (l : List S32) (hg : ∀ y ∈ l, G32 y) (hl : l.length ≤ maxLen) : ∀ (n j : Nat) (x : Int), j + n = l.length →
    ∃ b, Ev (fun k => skirmishlaw48_huge.l0 k l x (j : Int)) b ∧ (b = false → ∀ i, j ≤ i → i < l.length → i ≤ 600) := by
  intro n
  unfold maxLen at hl
  induction n with
  | zero =>
    intro j x hj
    refine ⟨decide (x > 100000), Ev.in1 (fun k => ?_), fun _ i h1 h2 => by omega⟩
    simp only [skirmishlaw48_huge.l0]
    rw [if_neg (by omega)]
  | succ n ih =>
    intro j x hj
    have hG := rd32 l hg j (by omega)
    have hc : (rd_T32 l (j : Int)).f7.f3.length ≤ maxLen := hG.2.2.2.2.2.2.2.1.2.2.2.2
    generalize hx : (wrap64 (x + (wrap64 ((1 + (mn (((rd_T32 l (j : Int)).f8).size : Int) 1000000)) + (((rd_T32 l (j : Int)).f7.f3).length : Int))))) = x'
    have huge_true : Ev (fun k => skirmishlaw48_huge.j1 k l x' (j : Int) true) true := Ev.in1 (fun k => by simp only [skirmishlaw48_huge.j1, if_true])
    by_cases h6 : (j : Int) > 600
    · refine ⟨true, Ev.step1 huge_true (fun k hk => ?_), fun h => by cases h⟩
      simp only [skirmishlaw48_huge.l0, hx]
      rw [if_pos (by omega), if_pos (by omega), if_pos h6]
      exact hk
    · by_cases h7 : x' > 100000
      · refine ⟨true, Ev.step1 huge_true (fun k hk => ?_), fun h => by cases h⟩
        simp only [skirmishlaw48_huge.l0, hx]
        rw [if_pos (by omega), if_pos (by omega), if_neg h6, decide_eq_true h7]
        exact hk
      · obtain ⟨y, hy⟩ := huge_l1 l j (by omega) hc _ 0 x' (Nat.zero_add _)
        obtain ⟨b, hb, hb2⟩ := ih (j + 1) y (by omega)
        have hb' : Ev (fun k => skirmishlaw48_huge.l0 k l y (wrap64 ((j : Int) + 1))) b := by rw [wr _ (by omega) (by omega)]; exact hb
        have h1 : Ev (fun k => skirmishlaw48_huge.j1 k l x' (j : Int) false) b := Ev.step1 (hy b hb') (fun k hk => by simp only [skirmishlaw48_huge.j1, Bool.false_eq_true, if_false]; exact hk)
        refine ⟨b, Ev.step1 h1 (fun k hk => ?_), fun h i h1 h2 => ?_⟩
        · simp only [skirmishlaw48_huge.l0, hx]
          rw [if_pos (by omega), if_pos (by omega), if_neg h6, decide_eq_false h7]
          exact hk
        · rcases Nat.lt_or_ge i (j + 1) with h3 | h3
          · omega
          · exact hb2 h i h3 h2
theorem huge_ev (l : List S32) (hg : ∀ y ∈ l, G32 y) (hl : l.length ≤ maxLen) : ∃ b, Ev (fun k => skirmishlaw48_huge.f k l) b ∧ (b = false → l.length ≤ 601) := by
  obtain ⟨b, hb, h2⟩ := huge_l0 l hg hl l.length 0 0 (by omega)
  refine ⟨b, hb, fun h => ?_⟩
  have := h2 h (l.length - 1)
  omega

theorem same34_l0 (n0 n1 : Int) (u : List Int) (n3 n4 n5 n6 : Int) (s : ByteArray) (b : Bool) (hu : u.length ≤ maxLen) : ∀ (n j : Nat), j + n = u.length →
    Ev (fun k => skirmishref34_Same.l0 k (j : Int) n0 n1 u n3 n4 n5 n6 s b n0 n1 u n3 n4 n5 n6 s b) true := by
  intro n
  unfold maxLen at hu
  induction n with
  | zero =>
    intro j hj
    refine Ev.in1 (fun k => ?_)
    simp only [skirmishref34_Same.l0]
    rw [if_neg (by omega)]
  | succ n ih =>
    intro j hj
    refine Ev.step1 (ih (j + 1) (by omega)) (fun k hk => ?_)
    simp only [skirmishref34_Same.l0]
    rw [if_pos (by omega), if_pos (by omega), if_pos (by omega), if_true, wr _ (by omega) (by omega)]
    exact hk
theorem same34_self (x : S49) (hu : x.f2.length ≤ maxLen) : Ev (fun k => skirmishref34_Same.f k x.f0 x.f1 x.f2 x.f3.f0 x.f3.f1 x.f4 x.f5 x.f6 x.f7 x.f0 x.f1 x.f2 x.f3.f0 x.f3.f1 x.f4 x.f5 x.f6 x.f7) true := by
  refine Ev.step1 (same34_l0 x.f0 x.f1 x.f2 x.f3.f0 x.f3.f1 x.f4 x.f5 x.f6 x.f7 hu x.f2.length 0 (by omega)) (fun k hk => ?_)
  unfold skirmishref34_Same.f
  simp only [if_true, beq_self_eq_true, Bool.not_true, Bool.or_self, Bool.false_eq_true, if_false, bne_self_eq_false, skirmishref34_Same.j0]
  exact hk
theorem cmds_l0 (l : List S49) (hg : ∀ y ∈ l, G49 y) (hl : l.length ≤ maxLen) : ∀ (n j : Nat), j + n = l.length → Ev (fun k => skirmishref46_SameCommands.l0 k l l (j : Int)) true := by
  intro n
  unfold maxLen at hl
  induction n with
  | zero =>
    intro j hj
    refine Ev.in1 (fun k => ?_)
    simp only [skirmishref46_SameCommands.l0]
    rw [if_neg (by omega)]
  | succ n ih =>
    intro j hj
    refine Ev.two (ih (j + 1) (by omega)) (same34_self (rd_T49 l (j : Int)) (rd49 l hg j (by omega)).2.2.1.2) (fun k hk hs => ?_)
    simp only [skirmishref46_SameCommands.l0]
    rw [if_pos (by omega), if_pos (by omega), if_pos (by omega), hs]
    simp only [Option.bind_some, if_true]
    rw [wr _ (by omega) (by omega)]
    exact hk
theorem packet_self (x : S32) (hx : G32 x) : Ev (fun k => skirmishref47_SamePacket.f k x.f0 x.f1 x.f2 x.f3 x.f4 x.f5 x.f6 x.f7.f0 x.f7.f1 x.f7.f2 x.f7.f3 x.f8 x.f0 x.f1 x.f2 x.f3 x.f4 x.f5 x.f6 x.f7.f0 x.f7.f1 x.f7.f2 x.f7.f3 x.f8) true := by
  have h := cmds_l0 x.f7.f3 hx.2.2.2.2.2.2.2.1.2.2.2.1 hx.2.2.2.2.2.2.2.1.2.2.2.2 _ 0 (Nat.zero_add _)
  unfold skirmishref47_SamePacket.f skirmishref46_Same.f skirmishref46_SameCommands.f
  simp only [if_true]
  exact Ev.bind (Ev.bind h (Ev.now true)) (Ev.now true)
theorem same_l0 (l : List S32) (hg : ∀ y ∈ l, G32 y) (hl : l.length ≤ maxLen) : ∀ (n j : Nat), j + n = l.length → Ev (fun k => skirmishlaw48_same.l0 k l l (j : Int)) true := by
  intro n
  unfold maxLen at hl
  induction n with
  | zero =>
    intro j hj
    refine Ev.in1 (fun k => ?_)
    simp only [skirmishlaw48_same.l0]
    rw [if_neg (by omega)]
  | succ n ih =>
    intro j hj
    refine Ev.two (ih (j + 1) (by omega)) (packet_self (rd_T32 l (j : Int)) (rd32 l hg j (by omega))) (fun k hk hs => ?_)
    simp only [skirmishlaw48_same.l0]
    rw [if_pos (by omega), if_pos (by omega), if_pos (by omega), hs]
    simp only [Option.bind_some, if_true]
    rw [wr _ (by omega) (by omega)]
    exact hk
theorem same_ev (l : List S32) (hg : ∀ y ∈ l, G32 y) (hl : l.length ≤ maxLen) : Ev (fun k => skirmishlaw48_same.f k l l) true := by
  unfold skirmishlaw48_same.f
  simp only [if_true]
  exact same_l0 l hg hl l.length 0 (by omega)
end Go.Proofs.Ytcpnmlmghjhelaa.Pure
