/- What the readers of numbers come to. -/
import Derived.Test.YtbclljolofbfdaaWireTake
namespace Go.Proofs.Ytbclljolofbfdaa.Pure
open Go.RowKit Go.Proofs.Ytbclljolofbfdaa.F Go.Proofs.YtbclljolofbfdaaW.PrintWords Go.Proofs.YtbclljolofbfdaaW.PrintLast Go.Proofs.YtbclljolofbfdaaW.PrintMore Go.Proofs.Ytbclljolofbfdaa.Plain

/-- TakeUint's answer. -/
def tu (s : ByteArray) (a : Int) : Int × Int × Int := if a < 0 ∨ (s.size : Int) < a then (0, 0, 1) else out a.toNat (dec 10 1 0 ((nb s).drop a.toNat))
theorem wire_tu (s : ByteArray) (hs : s.size ≤ 1000000) (a : Int) : Ev (fun k => wire_TakeUint.f k s a) (tu s a) := by
  unfold wire_TakeUint.f tu
  by_cases h0 : a < 0
  · simp only [if_pos h0, if_pos (show a < 0 ∨ (s.size : Int) < a from .inl h0)]
    exact Ev.in1 (fun k => by simp only [wire_TakeUint.j0]; rw [if_pos trivial])
  · simp only [if_neg h0]
    by_cases h1 : (s.size : Int) < a
    · rw [if_pos (.inr h1)]
      exact Ev.in1 (fun k => by simp only [wire_TakeUint.j0]; rw [decide_eq_true h1, if_pos rfl])
    · rw [if_neg (by omega)]
      obtain ⟨pos, rfl⟩ := Int.eq_ofNat_of_zero_le (show 0 ≤ a by omega)
      refine Ev.step1 (wire_take_l0 s hs pos 10 0 0 rfl (by simp) (by omega)) (fun k hk => ?_)
      simp only [wire_TakeUint.j0]
      rw [decide_eq_false h1, if_neg (by simp)]
      exact hk
theorem ref_tu (s : ByteArray) (hs : s.size ≤ 1000000) (a : Int) : Ev (fun k => skirmishref04_TakeUint.f k s a) (tu s a) := by
  unfold skirmishref04_TakeUint.f tu
  by_cases h0 : a < 0
  · simp only [if_pos h0, if_pos (show a < 0 ∨ (s.size : Int) < a from .inl h0)]
    exact Ev.in1 (fun k => by simp only [skirmishref04_TakeUint.j0]; rw [if_pos trivial])
  · simp only [if_neg h0]
    by_cases h1 : (s.size : Int) < a
    · rw [if_pos (.inr h1)]
      exact Ev.in1 (fun k => by simp only [skirmishref04_TakeUint.j0]; rw [decide_eq_true h1, if_pos rfl])
    · rw [if_neg (by omega)]
      obtain ⟨pos, rfl⟩ := Int.eq_ofNat_of_zero_le (show 0 ≤ a by omega)
      refine Ev.step1 (ref_take_l0 s hs pos 10 0 0 rfl (by simp) (by omega)) (fun k hk => ?_)
      simp only [skirmishref04_TakeUint.j0]
      rw [decide_eq_false h1, if_neg (by simp)]
      exact hk

/-- What TakeUint has read is the encoding of its result. -/
theorem tu_ok {s : ByteArray} {a r nx : Int} (h : tu s a = (r, nx, 0)) : 0 ≤ a ∧ ∃ m n : Nat, r = (m : Int) ∧ nx = a + (n : Int) ∧ n = (enc m).length ∧ m < 18446744073709551616 ∧ nx ≤ (s.size : Int) ∧ s.extract a.toNat nx.toNat = eb m := by
  unfold tu at h
  by_cases h0 : a < 0 ∨ (s.size : Int) < a
  · rw [if_pos h0] at h
    simp at h
  · rw [if_neg h0] at h
    obtain ⟨pos, rfl⟩ := Int.eq_ofNat_of_zero_le (show 0 ≤ a by omega)
    rw [Int.toNat_natCast] at h ⊢
    generalize hr : dec 10 1 0 ((nb s).drop pos) = x at h
    obtain ⟨m, n, e⟩ := x
    unfold out at h
    by_cases he : e = 0
    · subst he
      simp only [if_true, Prod.mk.injEq] at h
      obtain ⟨rfl, rfl, _⟩ := h
      obtain ⟨m', g1, g2, g3, g4, g5, _⟩ := dec_sound 9 1 0 _ m n (by decide) (by omega) (fun c hc => nb_lt s c (List.mem_of_mem_drop hc)) hr
      have hmm : m = m' := by omega
      subst hmm
      rw [List.length_drop, nb_length] at g3
      refine ⟨by omega, m, n, rfl, by omega, g2, by omega, by omega, nb_inj ?_⟩
      rw [nb_extract, nb_eb, ← g1, Int.toNat_natCast]
      congr 1
      omega
    · simp only [if_neg he, Prod.mk.injEq] at h
      exact absurd h.2.2 he
theorem tu_fail {s : ByteArray} {a : Int} (h : (tu s a).2.2 ≠ 0) : tu s a = (0, 0, (tu s a).2.2) := by
  unfold tu at h ⊢
  by_cases h0 : a < 0 ∨ (s.size : Int) < a
  · simp only [if_pos h0]
  · simp only [if_neg h0] at h ⊢
    generalize dec 10 1 0 ((nb s).drop a.toNat) = x at h ⊢
    obtain ⟨r, n, e⟩ := x
    unfold out at h ⊢
    by_cases he : e = 0
    · subst he
      simp at h
    · simp only [if_neg he]
/-- An encoding is read, whatever stands around it. -/
theorem tu_eb (b c : ByteArray) (m : Nat) (h : m < 18446744073709551616) : tu (b ++ eb m ++ c) (b.size : Int) = ((m : Int), ((b.size + (enc m).length : Nat) : Int), 0) := by
  unfold tu
  rw [if_neg (by rw [ByteArray.size_append, ByteArray.size_append]; omega), Int.toNat_natCast, nb_append, nb_append, List.append_assoc, ← nb_length b, List.drop_left, nb_eb, dec_enc 9 1 0 m (nb c) (by decide) (by omega) (by omega) (by omega)]
  unfold out
  rw [if_pos rfl]
  simp
theorem tu_cut (m j : Nat) (hm : m < 18446744073709551616) (hj : j < (enc m).length) : tu ((eb m).extract 0 j) 0 = (0, 0, 4) := by
  have hn : nb ((eb m).extract 0 j) = (enc m).take j := by rw [nb_extract, nb_eb]; simp
  unfold tu
  rw [if_neg (by omega)]
  show out 0 (dec 10 1 0 ((nb ((eb m).extract 0 j)).drop 0)) = _
  rw [List.drop_zero, hn, dec_cut 9 1 0 m j (by decide) (by omega) hj]
  rfl

end Go.Proofs.Ytbclljolofbfdaa.Pure
