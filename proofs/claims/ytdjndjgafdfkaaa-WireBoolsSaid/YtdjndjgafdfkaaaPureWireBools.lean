/- wire.Bool and wire.TakeBool are the reference's: for every position and every text of at most 2000 bytes. -/
import Derived.Test.YtdjndjgafdfkaaaWireMore
namespace Go.Proofs.Ytdjndjgafdfkaaa.Pure
open Go.RowKit Go.Proofs.Ytdjndjgafdfkaaa.F Go.Proofs.YtdjndjgafdfkaaaW.PrintWords Go.Proofs.YtdjndjgafdfkaaaW.PrintLast Go.Proofs.YtdjndjgafdfkaaaW.PrintMore Go.Proofs.Ytdjndjgafdfkaaa.Plain

theorem bools_same (s : ByteArray) (a : Int) : ∃ r, Ev (fun k => wire_TakeBool.f k s a) r ∧ Ev (fun k => skirmishref04_TakeBool.f k s a) r := by
  unfold wire_TakeBool.f skirmishref04_TakeBool.f
  have bad : ∃ r, Ev (fun k => wire_TakeBool.j0 k s a true) r ∧ Ev (fun k => skirmishref04_TakeBool.j0 k s a true) r :=
    ⟨(false, 0, 1), Ev.in1 (fun k => by simp only [wire_TakeBool.j0]; rw [if_pos trivial]), Ev.in1 (fun k => by simp only [skirmishref04_TakeBool.j0]; rw [if_pos trivial])⟩
  by_cases h0 : a < 0
  · simp only [if_pos h0]
    exact bad
  · simp only [if_neg h0]
    by_cases h1 : a > (s.size : Int)
    · rw [decide_eq_true h1]
      exact bad
    · rw [decide_eq_false h1]
      by_cases h2 : a = (s.size : Int)
      · refine ⟨(false, 0, 4), Ev.in1 (fun k => ?_), Ev.in1 (fun k => ?_)⟩
        · simp only [wire_TakeBool.j0]
          rw [if_neg (by simp), if_pos h2]
        · simp only [skirmishref04_TakeBool.j0]
          rw [if_neg (by simp), if_pos h2]
      · refine ⟨if bt s a > 1 then (false, 0, 5) else (bt s a == 1, wrap64 (a + 1), 0), Ev.in1 (fun k => ?_), Ev.in1 (fun k => ?_)⟩
        · simp only [wire_TakeBool.j0]
          rw [if_neg (by simp), if_neg h2, if_pos (by omega), if_pos (by omega)]
          split <;> rfl
        · simp only [skirmishref04_TakeBool.j0]
          rw [if_neg (by simp), if_neg h2, if_pos (by omega), if_pos (by omega)]
          split <;> rfl

theorem WireBools : skirmishlaw04_WireBools.Pure := by
  intro a0 a1 a2 _ w2
  refine Ev.rounds (g := fun k => skirmishlaw04_WireBools.f k a0 a1 a2) ?_
  unfold skirmishlaw04_WireBools.f
  by_cases h : (a1.size : Int) > 2000
  · simp only [if_pos h]
    exact Ev.bind awake_ev (Ev.now true)
  · simp only [if_neg h]
    obtain ⟨r, h1, h2⟩ := bools_same a1 a2
    refine Ev.bind h1 (Ev.bind h2 ?_)
    obtain ⟨b, hb, hb2⟩ : ∃ b, wire_Bool.f a0 = some b ∧ skirmishref04_Bool.f a0 = some b := by
      unfold wire_Bool.f skirmishref04_Bool.f
      cases a0
      · exact ⟨_, rfl, rfl⟩
      · exact ⟨_, rfl, rfl⟩
    rw [hb, hb2]
    simp only [beq_self_eq_true, if_true, Option.bind_some]
    exact Ev.bind awake_ev (Ev.now true)

end Go.Proofs.Ytdjndjgafdfkaaa.Pure
