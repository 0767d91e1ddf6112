/- rng.Seed and rng.Split return the hash and the value of the reference, for every state and every string of at most 5000 bytes. -/
import Derived.Test.YtfnndfejmmajfaaRngShuf
namespace Go.Proofs.Ytfnndfejmmajfaa.Pure
open Go.RowKit Go.Proofs.Ytfnndfejmmajfaa.F Go.Proofs.YtfnndfejmmajfaaW.PrintWords Go.Proofs.YtfnndfejmmajfaaW.PrintLast

theorem seed_l0 (s : ByteArray) (hs : s.size ≤ 5000) : ∀ (d j : Nat) (h : Int), j + d = s.size → ∃ r, Ev (fun k => rng_Seed.l0 k s h (s.size : Int) (j : Int)) r ∧ Ev (fun k => skirmishref03_Seed.l0 k s h (j : Int)) r := by
  intro d
  induction d with
  | zero =>
    intro j h hj
    refine ⟨h, Ev.step (f := fun _ => some h) (fun k => ?_) (Ev.now _), Ev.step (f := fun _ => some h) (fun k => ?_) (Ev.now _)⟩
    · simp only [rng_Seed.l0]
      rw [if_neg (by omega)]
    · simp only [skirmishref03_Seed.l0]
      rw [if_neg (by omega)]
  | succ d ih =>
    intro j h hj
    obtain ⟨r, h1, h2⟩ := ih (j + 1) (IntKind.u64.wrap ((Go.bits .xor .u64 h (IntKind.u64.wrap (bt s j))) * 1099511628211)) (by omega)
    refine ⟨r, Ev.step1 h1 (fun k hk => ?_), Ev.step1 h2 (fun k hk => ?_)⟩
    · simp only [rng_Seed.l0]
      rw [if_pos (by omega), if_pos (by omega), if_pos (by omega), wr _ (by omega) (by omega)]
      exact hk
    · simp only [skirmishref03_Seed.l0]
      rw [if_pos (by omega), if_pos (by omega), wr _ (by omega) (by omega)]
      exact hk

theorem RngSeeds : skirmishlaw03_RngSeeds.Pure := by
  intro a0 a1 _ _
  refine Ev.rounds (g := fun k => skirmishlaw03_RngSeeds.f k a0 a1) ?_
  unfold skirmishlaw03_RngSeeds.f
  by_cases h : (a1.size : Int) > 5000
  · simp only [if_pos h]
    exact Ev.bind awake_ev (Ev.now true)
  · simp only [if_neg h]
    obtain ⟨r, h1, h2⟩ := seed_l0 a1 (by omega) a1.size 0 14695981039346656037 (by omega)
    have g1 : Ev (fun k => rng_Seed.f k a1) r := h1
    have g2 : Ev (fun k => skirmishref03_Seed.f k a1) r := h2
    obtain ⟨v, s, hv, hr⟩ : ∃ v s, rng_Next.f (Go.bits .xor .u64 a0 r) = some (v, s) ∧ skirmishref03_Next.f (Go.bits .xor .u64 a0 r) = some (v, s) := ⟨_, _, next_eq _, next_ref _⟩
    have s1 : Ev (fun k => rng_Split.f k a0 a1) v := by
      unfold rng_Split.f
      refine Ev.bind g1 ?_
      rw [hv]
      exact Ev.now v
    have s2 : Ev (fun k => skirmishref03_Split.f k a0 a1) v := by
      unfold skirmishref03_Split.f
      refine Ev.bind g2 ?_
      rw [hr]
      exact Ev.now v
    refine Ev.bind g1 (Ev.bind g2 ?_)
    simp only [if_true]
    refine Ev.bind s1 (Ev.bind s2 ?_)
    simp only [if_true]
    exact Ev.bind awake_ev (Ev.now true)

end Go.Proofs.Ytfnndfejmmajfaa.Pure
