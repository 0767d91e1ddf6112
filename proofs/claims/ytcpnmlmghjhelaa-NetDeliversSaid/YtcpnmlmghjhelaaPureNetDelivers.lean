/- net.Deliver and net.Drop take out what the reference's Deliver takes out: for all lists and indices. -/
import Derived.Test.YtcpnmlmghjhelaaNetLib
import Derived.Test.YtcpnmlmghjhelaaFx3
import Derived.Test.YtcpnmlmghjhelaaFx8
namespace Go.Proofs.Ytcpnmlmghjhelaa.Pure
open Go.RowKit Go.Proofs.Ytcpnmlmghjhelaa.F Go.Proofs.Ytcpnmlmghjhelaa.Opens Go.Proofs.YtcpnmlmghjhelaaW.PrintWords Go.Proofs.YtcpnmlmghjhelaaW.PrintLast Go.Proofs.YtcpnmlmghjhelaaW.PrintMore

theorem without_eq (l : List S32) (a : Int) (hl : l.length ≤ 601) (h0 : 0 ≤ a) (h1 : a < (l.length : Int)) : net_without.f l a = some (l.take a.toNat ++ l.drop (a + 1).toNat) := by
  unfold net_without.f
  simp only [Option.bind_some, wr (a + 1) (by omega) (by omega), List.nil_append, List.length_nil, Nat.zero_add]
  rw [if_pos h0, if_pos (by omega), if_pos (by rw [List.length_take]; omega), if_pos (by omega), if_pos (by omega), if_pos (by rw [List.length_take, List.length_drop]; omega)]
/-- The packet that Deliver takes, the packets that are left, the error. -/
def pick (l : List S32) (a : Int) : S32 := if 0 ≤ a ∧ a < (l.length : Int) then rd_T32 l a else ⟨0, 0, 0, 0, 0, 0, 0, ⟨0, 0, 0, []⟩, ⟨#[]⟩⟩
def left (l : List S32) (a : Int) : List S32 := if 0 ≤ a ∧ a < (l.length : Int) then l.take a.toNat ++ l.drop (a + 1).toNat else []
def err (l : List S32) (a : Int) : Int := if 0 ≤ a ∧ a < (l.length : Int) then 0 else 8
def took (l : List S32) (a : Int) : Int × Int × Int × Int × Int × Int × Int × Int × Int × Int × (List (S49)) × ByteArray × (List (S32)) × Int :=
  ((pick l a).f0, (pick l a).f1, (pick l a).f2, (pick l a).f3, (pick l a).f4, (pick l a).f5, (pick l a).f6, (pick l a).f7.f0, (pick l a).f7.f1, (pick l a).f7.f2, (pick l a).f7.f3, (pick l a).f8, left l a, err l a)
theorem has_eq (l : List S32) (a : Int) : net_has.f l a = some (decide (0 ≤ a ∧ a < (l.length : Int))) := by
  unfold net_has.f
  by_cases h0 : a ≥ 0
  · rw [if_pos h0]
    have : (0 ≤ a ∧ a < (l.length : Int)) ↔ a < (l.length : Int) := by omega
    simp only [this]
  · rw [if_neg h0, decide_eq_false (by omega)]
theorem deliver_eq (l : List S32) (a : Int) (hl : l.length ≤ 601) : net_Deliver.f l a = some (took l a) := by
  unfold net_Deliver.f took pick left err
  rw [has_eq, Option.bind_some]
  by_cases h : 0 ≤ a ∧ a < (l.length : Int)
  · simp only [h, and_self, decide_true, if_true, without_eq l a hl h.1 h.2, Option.bind_some]
  · simp only [decide_eq_false h, Bool.false_eq_true, if_false, if_neg h]
theorem ref_deliver_eq (l : List S32) (a : Int) (hl : l.length ≤ 601) : skirmishref48_Deliver.f l a = some (took l a) := by
  unfold skirmishref48_Deliver.f took pick left err
  by_cases h : 0 ≤ a ∧ a < (l.length : Int)
  · rw [if_neg (by omega), if_neg (by omega)]
    simp only [h, and_self, if_true, without_eq l a hl h.1 h.2, Option.bind_some]
  · simp only [if_neg h]
    by_cases h0 : a < 0
    · rw [if_pos h0]
    · rw [if_neg h0, if_pos (by omega)]
theorem drop_eq (l : List S32) (a : Int) (hl : l.length ≤ 601) : net_Drop.f l a = some (left l a, err l a) := by
  unfold net_Drop.f left err
  rw [has_eq, Option.bind_some]
  by_cases h : 0 ≤ a ∧ a < (l.length : Int)
  · simp only [h, and_self, decide_true, if_true, without_eq l a hl h.1 h.2, Option.bind_some]
  · simp only [decide_eq_false h, Bool.false_eq_true, if_false, if_neg h]
theorem zero32 : G32 ⟨0, 0, 0, 0, 0, 0, 0, ⟨0, 0, 0, []⟩, ⟨#[]⟩⟩ := by
  refine ⟨by decide, by decide, by decide, by decide, by decide, by decide, by decide, ⟨by decide, by decide, by decide, ?_⟩, ?_⟩
  · exact ⟨fun y h => by simp at h, by simp⟩
  · show ByteArray.size _ ≤ maxLen
    unfold maxLen
    decide
theorem pick_ok (l : List S32) (hg : ∀ y ∈ l, G32 y) (a : Int) : G32 (pick l a) := by
  unfold pick
  split
  · rename_i h
    obtain ⟨n, rfl⟩ := Int.eq_ofNat_of_zero_le h.1
    exact rd32 l hg n (by omega)
  · exact zero32
theorem left_ok (l : List S32) (hg : ∀ y ∈ l, G32 y) (hl : l.length ≤ 601) (a : Int) : (∀ y ∈ left l a, G32 y) ∧ (left l a).length ≤ maxLen := by
  unfold left maxLen
  split
  · refine ⟨fun y hy => ?_, ?_⟩
    · rcases List.mem_append.1 hy with h | h
      · exact hg y (List.mem_of_mem_take h)
      · exact hg y (List.mem_of_mem_drop h)
    · rw [List.length_append, List.length_take, List.length_drop]
      omega
  · exact ⟨fun y hy => by simp at hy, by simp⟩
theorem NetDelivers (l : List S32) (hg : ∀ y ∈ l, G32 y) (hl : l.length ≤ maxLen) (a : Int) (_ : (Lit.int .i64 a).wf = true) : ∃ k, skirmishlaw48_NetDelivers.f k l a = some true := by
  refine Ev.rounds (g := fun k => skirmishlaw48_NetDelivers.f k l a) ?_
  obtain ⟨b, hb, hb2⟩ := huge_ev l hg hl
  unfold skirmishlaw48_NetDelivers.f
  refine Ev.bind hb ?_
  cases b with
  | true =>
    simp only [if_true]
    exact Ev.bind awake_ev (Ev.now true)
  | false =>
    have h1 := hb2 rfl
    have hs := same_ev (left l a) (left_ok l hg h1 a).1 (left_ok l hg h1 a).2
    simp only [Bool.false_eq_true, if_false, deliver_eq l a h1, ref_deliver_eq l a h1, drop_eq l a h1, Option.bind_some, took]
    refine Ev.bind (packet_self (pick l a) (pick_ok l hg a)) ?_
    simp only [if_true]
    refine Ev.bind hs ?_
    simp only [if_true]
    refine Ev.bind hs ?_
    simp only [if_true]
    exact Ev.bind awake_ev (Ev.now true)
end Go.Proofs.Ytcpnmlmghjhelaa.Pure
