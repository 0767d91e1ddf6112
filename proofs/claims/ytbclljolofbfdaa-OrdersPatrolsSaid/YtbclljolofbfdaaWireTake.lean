/- The readers' loops. -/
import Derived.Test.YtbclljolofbfdaaWireLib
namespace Go.Proofs.Ytbclljolofbfdaa.Pure
open Go.RowKit Go.Proofs.Ytbclljolofbfdaa.F Go.Proofs.YtbclljolofbfdaaW.PrintWords Go.Proofs.YtbclljolofbfdaaW.PrintLast Go.Proofs.YtbclljolofbfdaaW.PrintMore Go.Proofs.Ytbclljolofbfdaa.Plain

theorem e_pos (pos i : Nat) (h : pos + i ≤ 1000000) : wrap64 ((pos : Int) + (i : Int)) = ((pos + i : Nat) : Int) := by
  have e := wr ((pos : Int) + (i : Int)) (by omega) (by omega)
  omega
theorem e_next (pos i : Nat) (h : pos + i ≤ 1000000) : wrap64 (((pos + i : Nat) : Int) + 1) = ((pos + (i + 1) : Nat) : Int) := by
  have e := wr (((pos + i : Nat) : Int) + 1) (by omega) (by omega)
  omega
theorem e_i (i : Nat) (h : i ≤ 10) : wrap64 ((i : Int) + 1) = ((i + 1 : Nat) : Int) := by
  have e := wr ((i : Int) + 1) (by omega) (by omega)
  omega
theorem e_7 (i : Nat) (h : i ≤ 10) : wrap64 (7 * (i : Int)) = 7 * (i : Int) := wr _ (by omega) (by omega)
theorem e_7u (i : Nat) (h : i ≤ 10) : IntKind.u64.wrap (wrap64 (7 * (i : Int))) = 7 * (i : Int) := by
  rw [e_7 i h, w64]
  omega
theorem nonneg7 (i : Nat) : 0 ≤ 7 * (i : Int) := by omega
theorem low_a (c : Nat) : IntKind.u64.wrap (Int.tmod (c : Int) 128) = ((c % 128 : Nat) : Int) := by
  rw [w64, Int.tmod_eq_emod_of_nonneg (by omega)]
  omega
theorem low_b (c : Nat) (hc : c < 256) : IntKind.u64.wrap (Go.bits .and .u8 (c : Int) 127) = ((c % 128 : Nat) : Int) := by
  have hb := bits_mask .u8 8 (by decide) (fun n h0 h1 => wraps_u8 n h0 h1) 7 (by omega) (c : Int) (by omega) (by omega)
  have e : (2 : Int) ^ 7 - 1 = 127 := by decide
  rw [e] at hb
  rw [hb, w64]
  omega
theorem join_step (acc c i : Nat) (hi : i ≤ 9) (ha : acc < 128 ^ i) (h9 : i = 9 → c ≤ 1) : Go.bits .or .u64 (acc : Int) (shl .u64 ((c % 128 : Nat) : Int) (7 * (i : Int))) = ((acc + c % 128 * 128 ^ i : Nat) : Int) := by
  obtain ⟨hshl, hlt⟩ := shl64 (c % 128) i hi (by omega) (fun h => by have := h9 h; omega)
  rw [hshl, or64 acc (c % 128) i hi ha hlt]

theorem wire_take_last (s : ByteArray) (pos acc i c k : Nat) (hi : i ≤ 9) (hsm : pos + i ≤ 1000000) (ha : acc < 128 ^ i) (h9 : i = 9 → c ≤ 1) (hc : c < 128) (hc256 : c < 256) (d : Nat) (hd : i + (d + 1) = 10) (l : List Nat) :
    wire_TakeUint.j2 (k + 1) s (pos : Int) (acc : Int) (i : Int) (c : Int) (i : Int) false = some (out (pos + i) (dec (d + 1) (128 ^ i) acc (c :: l))) := by
  have hd1 : dec (d + 1) (128 ^ i) acc (c :: l) = if c = 0 ∧ d < 9 then (0, 0, 5) else (acc + c * 128 ^ i, 1, 0) := by rw [dec, if_neg (show ¬ (d = 0 ∧ 1 < c) by omega), if_pos hc]
  simp only [wire_TakeUint.j2]
  rw [if_neg (by simp), e_7 i (by omega), if_pos (nonneg7 i), if_pos (show (c : Int) < 128 by omega), low_a c, join_step acc c i hi ha h9, e_pos pos i hsm, e_next pos i hsm, hd1]
  have em : c % 128 = c := by omega
  by_cases h0 : c = 0
  · subst h0
    by_cases hi0 : i = 0
    · rw [if_pos (by omega), if_neg (show ¬ (i : Int) > 0 by omega), if_neg (show ¬ (0 = 0 ∧ d < 9) by omega)]
      subst hi0
      rfl
    · rw [if_pos (by omega), if_pos (show (i : Int) > 0 by omega), if_pos (show 0 = 0 ∧ d < 9 by omega)]
      rfl
  · rw [if_neg (show ¬ (c : Int) = 0 by omega), if_neg (show ¬ (c = 0 ∧ d < 9) by omega), em]
    rfl
theorem wire_take_more (s : ByteArray) (pos acc i c k : Nat) (hi : i ≤ 9) (ha : acc < 128 ^ i) (h9 : i = 9 → c ≤ 1) (hc : ¬ c < 128) (hc256 : c < 256) :
    wire_TakeUint.j2 (k + 1) s (pos : Int) (acc : Int) (i : Int) (c : Int) (i : Int) false = wire_TakeUint.l0 k s (pos : Int) ((acc + c % 128 * 128 ^ i : Nat) : Int) ((i + 1 : Nat) : Int) := by
  simp only [wire_TakeUint.j2]
  rw [if_neg (by simp), e_7 i (by omega), if_pos (nonneg7 i), if_neg (show ¬ (c : Int) < 128 by omega), low_a c, join_step acc c i hi ha h9, e_i i (by omega)]
theorem wire_take_in (s : ByteArray) (pos acc i c k : Nat) (hi : i ≤ 9) (hsm : s.size ≤ 1000000) (hlt : pos + i < s.size) (hbt : bt s ((pos + i : Nat) : Int) = (c : Int)) :
    wire_TakeUint.l0 (k + 1) s (pos : Int) (acc : Int) (i : Int) = wire_TakeUint.j2 k s (pos : Int) (acc : Int) (i : Int) (c : Int) (i : Int) (if i = 9 then decide (1 < c) else false) := by
  simp only [wire_TakeUint.l0]
  rw [if_pos (by omega), e_pos pos i (by omega), if_neg (by omega), if_pos (by omega), if_pos (by omega), hbt]
  by_cases h9 : i = 9
  · have e : decide ((c : Int) > 1) = decide (1 < c) := by
      by_cases h : 1 < c
      · rw [decide_eq_true h, decide_eq_true (show (c : Int) > 1 by omega)]
      · rw [decide_eq_false h, decide_eq_false (show ¬ (c : Int) > 1 by omega)]
    rw [if_pos (by omega), if_pos h9, e]
  · rw [if_neg (by omega), if_neg h9]

theorem wire_take_l0 (s : ByteArray) (hs : s.size ≤ 1000000) (pos : Nat) : ∀ (d i acc : Nat), i + d = 10 → acc < 128 ^ i → pos + i ≤ s.size →
    Ev (fun k => wire_TakeUint.l0 k s (pos : Int) (acc : Int) (i : Int)) (out (pos + i) (dec d (128 ^ i) acc ((nb s).drop (pos + i)))) := by
  intro d
  induction d with
  | zero =>
    intro i acc hi _ _
    refine Ev.in1 (fun k => ?_)
    simp only [wire_TakeUint.l0]
    rw [if_neg (by omega)]
    rfl
  | succ d ih =>
    intro i acc hi ha hp
    by_cases hend : pos + i = s.size
    · refine Ev.in1 (fun k => ?_)
      simp only [wire_TakeUint.l0]
      rw [if_pos (by omega), e_pos pos i (by omega), if_pos (by omega), List.drop_eq_nil_of_le (by rw [nb_length]; omega)]
      rfl
    · obtain ⟨c, hc, hbt, hdrop⟩ := nb_at s (pos + i) (by omega)
      have hi9 : i ≤ 9 := by omega
      have hlt : pos + i < s.size := by omega
      rw [hdrop]
      refine Ev.step1 (f := fun k => wire_TakeUint.j2 k s (pos : Int) (acc : Int) (i : Int) (c : Int) (i : Int) (if i = 9 then decide (1 < c) else false)) ?_ (fun k hk => (wire_take_in s pos acc i c k hi9 hs hlt hbt).trans hk)
      clear hdrop hbt
      by_cases hbig : d = 0 ∧ 1 < c
      · have e : (if i = 9 then decide (1 < c) else false) = true := by rw [if_pos (by omega)]; exact decide_eq_true hbig.2
        rw [e]
        refine Ev.in1 (fun k => ?_)
        simp only [wire_TakeUint.j2]
        rw [if_pos trivial, dec, if_pos hbig]
        rfl
      · have e : (if i = 9 then decide (1 < c) else false) = false := by
          by_cases h9 : i = 9
          · rw [if_pos h9]; exact decide_eq_false (by omega)
          · rw [if_neg h9]
        rw [e]
        by_cases hs2 : c < 128
        · exact Ev.in1 (fun k => wire_take_last s pos acc i c k hi9 (by omega) ha (by omega) hs2 hc d hi _)
        · rw [out_step pos i d _ acc c _ hbig hs2]
          have h := ih (i + 1) (acc + c % 128 * 128 ^ i) (by omega) (grow i acc c ha) (by omega)
          rw [Nat.pow_succ, Nat.mul_comm (128 ^ i) 128] at h
          exact Ev.step1 h (fun k hk => (wire_take_more s pos acc i c k hi9 ha (by omega) hs2 hc).trans hk)

theorem ref_take_last (s : ByteArray) (pos acc i c k : Nat) (hi : i ≤ 9) (hsm : pos + i ≤ 1000000) (ha : acc < 128 ^ i) (h9 : i = 9 → c ≤ 1) (hc : c < 128) (hc256 : c < 256) (d : Nat) (hd : i + (d + 1) = 10) (l : List Nat) :
    skirmishref04_TakeUint.j2 (k + 1) s (pos : Int) (acc : Int) (i : Int) (c : Int) false = some (out (pos + i) (dec (d + 1) (128 ^ i) acc (c :: l))) := by
  have hd1 : dec (d + 1) (128 ^ i) acc (c :: l) = if c = 0 ∧ d < 9 then (0, 0, 5) else (acc + c * 128 ^ i, 1, 0) := by rw [dec, if_neg (show ¬ (d = 0 ∧ 1 < c) by omega), if_pos hc]
  simp only [skirmishref04_TakeUint.j2]
  rw [if_neg (by simp), e_7u i (by omega), if_pos (nonneg7 i), if_neg (show ¬ (c : Int) ≥ 128 by omega), low_b c hc256, join_step acc c i hi ha h9, e_pos pos i hsm, e_next pos i hsm, hd1]
  have em : c % 128 = c := by omega
  by_cases h0 : c = 0
  · subst h0
    by_cases hi0 : i = 0
    · rw [if_pos (by omega), if_neg (show ¬ (i : Int) > 0 by omega), if_neg (show ¬ (0 = 0 ∧ d < 9) by omega)]
      subst hi0
      rfl
    · rw [if_pos (by omega), if_pos (show (i : Int) > 0 by omega), if_pos (show 0 = 0 ∧ d < 9 by omega)]
      rfl
  · rw [if_neg (show ¬ (c : Int) = 0 by omega), if_neg (show ¬ (c = 0 ∧ d < 9) by omega), em]
    rfl
theorem ref_take_more (s : ByteArray) (pos acc i c k : Nat) (hi : i ≤ 9) (ha : acc < 128 ^ i) (h9 : i = 9 → c ≤ 1) (hc : ¬ c < 128) (hc256 : c < 256) :
    skirmishref04_TakeUint.j2 (k + 1) s (pos : Int) (acc : Int) (i : Int) (c : Int) false = skirmishref04_TakeUint.l0 k s (pos : Int) ((acc + c % 128 * 128 ^ i : Nat) : Int) ((i + 1 : Nat) : Int) := by
  simp only [skirmishref04_TakeUint.j2]
  rw [if_neg (by simp), e_7u i (by omega), if_pos (nonneg7 i), if_pos (show (c : Int) ≥ 128 by omega), low_b c hc256, join_step acc c i hi ha h9, e_i i (by omega)]
theorem ref_take_in (s : ByteArray) (pos acc i c k : Nat) (hi : i ≤ 9) (hsm : s.size ≤ 1000000) (hlt : pos + i < s.size) (hbt : bt s ((pos + i : Nat) : Int) = (c : Int)) :
    skirmishref04_TakeUint.l0 (k + 1) s (pos : Int) (acc : Int) (i : Int) = skirmishref04_TakeUint.j2 k s (pos : Int) (acc : Int) (i : Int) (c : Int) (if i = 9 then decide (1 < c) else false) := by
  simp only [skirmishref04_TakeUint.l0]
  rw [if_pos (by omega), e_pos pos i (by omega), if_neg (by omega), if_pos (by omega), if_pos (by omega), hbt]
  by_cases h9 : i = 9
  · have e : decide ((c : Int) > 1) = decide (1 < c) := by
      by_cases h : 1 < c
      · rw [decide_eq_true h, decide_eq_true (show (c : Int) > 1 by omega)]
      · rw [decide_eq_false h, decide_eq_false (show ¬ (c : Int) > 1 by omega)]
    rw [if_pos (by omega), if_pos h9, e]
  · rw [if_neg (by omega), if_neg h9]

theorem ref_take_l0 (s : ByteArray) (hs : s.size ≤ 1000000) (pos : Nat) : ∀ (d i acc : Nat), i + d = 10 → acc < 128 ^ i → pos + i ≤ s.size →
    Ev (fun k => skirmishref04_TakeUint.l0 k s (pos : Int) (acc : Int) (i : Int)) (out (pos + i) (dec d (128 ^ i) acc ((nb s).drop (pos + i)))) := by
  intro d
  induction d with
  | zero =>
    intro i acc hi _ _
    refine Ev.in1 (fun k => ?_)
    simp only [skirmishref04_TakeUint.l0]
    rw [if_neg (by omega)]
    rfl
  | succ d ih =>
    intro i acc hi ha hp
    by_cases hend : pos + i = s.size
    · refine Ev.in1 (fun k => ?_)
      simp only [skirmishref04_TakeUint.l0]
      rw [if_pos (by omega), e_pos pos i (by omega), if_pos (by omega), List.drop_eq_nil_of_le (by rw [nb_length]; omega)]
      rfl
    · obtain ⟨c, hc, hbt, hdrop⟩ := nb_at s (pos + i) (by omega)
      have hi9 : i ≤ 9 := by omega
      have hlt : pos + i < s.size := by omega
      rw [hdrop]
      refine Ev.step1 (f := fun k => skirmishref04_TakeUint.j2 k s (pos : Int) (acc : Int) (i : Int) (c : Int) (if i = 9 then decide (1 < c) else false)) ?_ (fun k hk => (ref_take_in s pos acc i c k hi9 hs hlt hbt).trans hk)
      clear hdrop hbt
      by_cases hbig : d = 0 ∧ 1 < c
      · have e : (if i = 9 then decide (1 < c) else false) = true := by rw [if_pos (by omega)]; exact decide_eq_true hbig.2
        rw [e]
        refine Ev.in1 (fun k => ?_)
        simp only [skirmishref04_TakeUint.j2]
        rw [if_pos trivial, dec, if_pos hbig]
        rfl
      · have e : (if i = 9 then decide (1 < c) else false) = false := by
          by_cases h9 : i = 9
          · rw [if_pos h9]; exact decide_eq_false (by omega)
          · rw [if_neg h9]
        rw [e]
        by_cases hs2 : c < 128
        · exact Ev.in1 (fun k => ref_take_last s pos acc i c k hi9 (by omega) ha (by omega) hs2 hc d hi _)
        · rw [out_step pos i d _ acc c _ hbig hs2]
          have h := ih (i + 1) (acc + c % 128 * 128 ^ i) (by omega) (grow i acc c ha) (by omega)
          rw [Nat.pow_succ, Nat.mul_comm (128 ^ i) 128] at h
          exact Ev.step1 h (fun k hk => (ref_take_more s pos acc i c k hi9 ha (by omega) hs2 hc).trans hk)

end Go.Proofs.Ytbclljolofbfdaa.Pure
