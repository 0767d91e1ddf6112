/- Shuffle, plainly: its draws and exchanges; the program's and the reference's loops both come to it. -/
import Derived.Test.YtfnndfejmmajfaaRngLib
namespace Go.Proofs.Ytfnndfejmmajfaa.Pure
open Go.RowKit Go.Proofs.Ytfnndfejmmajfaa.F Go.Proofs.YtfnndfejmmajfaaW.PrintWords Go.Proofs.YtfnndfejmmajfaaW.PrintLast

/-- Exchanging l[i] and l[j]. -/
def swp (l : List Int) (i j : Nat) : List Int := (l.set i (l.getD j 0)).set j (l.getD i 0)
theorem swp_length (l : List Int) (i j : Nat) : (swp l i j).length = l.length := by simp [swp]
theorem swp_perm (l : List Int) (i j : Nat) (hi : i < l.length) (hj : j < l.length) : (swp l i j).Perm l := by
  have h : (l.set i l[j] |>.set j l[i]).Perm l := List.set_set_perm hi hj
  simpa [swp, List.getD_eq_getElem?_getD, hi, hj] using h

/-- m exchanges, from index m down: the list and the state behind them. -/
inductive Shuf : Nat → Int → List Int → List Int → Int → Prop
  | done (s : Int) (l : List Int) : Shuf 0 s l l s
  | step (m : Nat) (s : Int) (l : List Int) (r : Int × Int) (l' : List Int) (s' : Int) : Draw s ((m : Int) + 2) r → Shuf m r.2 (swp l (m + 1) r.1.toNat) l' s' → Shuf (m + 1) s l l' s'
theorem shuf_ex (m : Nat) : ∀ (s : Int) (l : List Int), m ≤ 1000 → ∃ l' s', Shuf m s l l' s' := by
  induction m with
  | zero => exact fun s l _ => ⟨l, s, .done s l⟩
  | succ m ih =>
    intro s l hm
    obtain ⟨r, hr⟩ := draw_ex s ((m : Int) + 2) (by omega) (by omega)
    obtain ⟨l', s', h⟩ := ih r.2 (swp l (m + 1) r.1.toNat) (by omega)
    exact ⟨l', s', .step m s l r l' s' hr h⟩
theorem shuf_length {m : Nat} {s : Int} {l l' : List Int} {s' : Int} (h : Shuf m s l l' s') : l'.length = l.length := by
  induction h with
  | done => rfl
  | step m s l r l' s' _ _ ih => rw [ih, swp_length]
theorem shuf_perm {m : Nat} {s : Int} {l l' : List Int} {s' : Int} (h : Shuf m s l l' s') : m < l.length ∨ m = 0 → l'.Perm l := by
  induction h with
  | done => exact fun _ => List.Perm.refl _
  | step m s l r l' s' hr _ ih =>
    intro hm
    have hb := draw_range (by omega) hr
    refine (ih ?_).trans (swp_perm l (m + 1) r.1.toNat (by omega) (by omega))
    rw [swp_length]
    omega

theorem Ev.step1 {α : Type} {g f : Nat → Option α} {r : α} (h : Ev f r) (e : ∀ k, f k = some r → g (k + 1) = some r) : Ev g r := by
  obtain ⟨K, hK⟩ := h
  refine ⟨K + 1, fun k hk => ?_⟩
  obtain ⟨k, rfl⟩ : ∃ m, k = m + 1 := ⟨k - 1, by omega⟩
  exact e k (hK k (by omega))
theorem Ev.and {α β : Type} {g : Nat → Option α} {f : Nat → Option β} {a : α} {b : β} (h : Ev g a) (k : Ev f b) : ∃ K, ∀ n, K ≤ n → g n = some a ∧ f n = some b := by
  obtain ⟨K, hK⟩ := h
  obtain ⟨L, hL⟩ := k
  exact ⟨max K L, fun n hn => ⟨hK n (by omega), hL n (by omega)⟩⟩
theorem Ev.two {α β γ : Type} {g : Nat → Option α} {f : Nat → Option β} {h : Nat → Option γ} {a : α} {b : β} {c : γ} (hg : Ev g a) (hf : Ev f b) (e : ∀ k, g k = some a → f k = some b → h (k + 1) = some c) : Ev h c := by
  obtain ⟨K, hK⟩ := Ev.and hg hf
  refine ⟨K + 1, fun k hk => ?_⟩
  obtain ⟨k, rfl⟩ : ∃ m, k = m + 1 := ⟨k - 1, by omega⟩
  exact e k (hK k (by omega)).1 (hK k (by omega)).2

theorem rd_nat (l : List Int) (i : Int) (j : Nat) (h : i = (j : Int)) : rd l i = l.getD j 0 := by
  subst h
  rfl

theorem rng_l1 {m : Nat} {s : Int} {l l' : List Int} {s' : Int} (h : Shuf m s l l' s') : ∀ n : Nat, n ≤ 1000 → l.length = n → m + 1 ≤ n →
    Ev (fun k => rng_Shuffle.l1 k s (n : Int) l ((n : Int) - 1) ((n : Int) - 1 - (m : Int))) (l', s', 0) := by
  induction h with
  | done s l =>
    intro n hn hl hm
    refine Ev.step (f := fun _ => some (l, s, 0)) (fun k => ?_) (Ev.now _)
    simp only [rng_Shuffle.l1]
    rw [if_neg (by omega)]
  | step m s l r l' s' hr _ ih =>
    intro n hn hl hm
    have hb := draw_range (by omega) hr
    obtain ⟨b, x⟩ := r
    refine Ev.two (below_draw (by omega) (by omega) hr) (ih n hn (by rw [swp_length]; exact hl) (by omega)) (fun k h1 h2 => ?_)
    have e1 : wrap64 ((n : Int) - 1) = (n : Int) - 1 := wr _ (by omega) (by omega)
    have e2 : wrap64 ((n : Int) - 1 - ((n : Int) - 1 - ((m + 1 : Nat) : Int))) = (m : Int) + 1 := by rw [wr _ (by omega) (by omega)]; omega
    have e3 : wrap64 ((m : Int) + 1 + 1) = (m : Int) + 2 := by rw [wr _ (by omega) (by omega)]; omega
    have e4 : wrap64 ((n : Int) - 1 - ((m + 1 : Nat) : Int) + 1) = (n : Int) - 1 - (m : Int) := by rw [wr _ (by omega) (by omega)]; omega
    simp only [rng_Shuffle.l1]
    rw [if_pos (by omega), e1, e2, e3, e4, h1]
    simp only [Option.bind_some]
    rw [if_pos hb.1, if_pos (by omega), if_pos (by omega), if_pos (by omega), rd_nat l b b.toNat (by omega), rd_nat l ((m : Int) + 1) (m + 1) (by omega)]
    exact h2

theorem ref_l1 {m : Nat} {s : Int} {l l' : List Int} {s' : Int} (h : Shuf m s l l' s') : ∀ n : Nat, n ≤ 1000 → l.length = n → m + 1 ≤ n →
    Ev (fun k => skirmishref03_Shuffle.l1 k l s (m : Int)) (l', s', 0) := by
  induction h with
  | done s l =>
    intro n hn hl hm
    refine Ev.step (f := fun _ => some (l, s, 0)) (fun k => ?_) (Ev.now _)
    simp only [skirmishref03_Shuffle.l1]
    rw [if_neg (by omega)]
  | step m s l r l' s' hr _ ih =>
    intro n hn hl hm
    have hb := draw_range (by omega) hr
    obtain ⟨b, x⟩ := r
    refine Ev.two (ref_draw (by omega) (by omega) hr) (ih n hn (by rw [swp_length]; exact hl) (by omega)) (fun k h1 h2 => ?_)
    have e3 : wrap64 (((m + 1 : Nat) : Int) + 1) = (m : Int) + 2 := by rw [wr _ (by omega) (by omega)]; omega
    have e4 : wrap64 (((m + 1 : Nat) : Int) - 1) = (m : Int) := by rw [wr _ (by omega) (by omega)]; omega
    simp only [skirmishref03_Shuffle.l1]
    rw [if_pos (by omega), e3, e4, h1]
    simp only [Option.bind_some]
    rw [if_pos (by omega), if_pos (by omega), if_pos hb.1, if_pos (by omega), rd_nat l b b.toNat (by omega), rd_nat l _ (m + 1) rfl]
    exact h2

/-- 0, 1, .., n - 1. -/
def iot (n : Nat) : List Int := (List.range n).map Int.ofNat
theorem iot_length (n : Nat) : (iot n).length = n := by simp [iot]
theorem iot_succ (n : Nat) : iot (n + 1) = iot n ++ [(n : Int)] := by simp [iot, List.range_succ]
theorem iot_mem (n : Nat) (v : Int) : v ∈ iot n ↔ 0 ≤ v ∧ v < n := by
  simp only [iot, List.mem_map, List.mem_range]
  constructor
  · rintro ⟨a, ha, rfl⟩
    exact ⟨Int.natCast_nonneg a, by show (a : Int) < n; omega⟩
  · rintro ⟨h0, h1⟩
    exact ⟨v.toNat, by omega, by show ((v.toNat : Nat) : Int) = v; omega⟩
theorem iot_nodup (n : Nat) : (iot n).Nodup := by
  unfold iot
  refine List.Pairwise.map _ (fun a b h => ?_) List.nodup_range
  intro e
  exact h (Int.ofNat.inj e)

theorem set_fill (j d : Nat) : (iot j ++ List.replicate (d + 1) 0).set j (j : Int) = iot (j + 1) ++ List.replicate d 0 := by
  rw [List.set_append_right _ _ (by rw [iot_length]; exact Nat.le_refl _), iot_length, Nat.sub_self, iot_succ]
  simp [List.replicate_succ]

theorem rng_l0 (s : Int) (n : Nat) (hn : n ≤ 1000) (r : List Int × Int × Int) (h : Ev (fun k => rng_Shuffle.l1 k s (n : Int) (iot n) (wrap64 ((n : Int) - 1)) 0) r) :
    ∀ (d j : Nat), j + d = n → Ev (fun k => rng_Shuffle.l0 k s (n : Int) (iot j ++ List.replicate d 0) (n : Int) (j : Int)) r := by
  intro d
  induction d with
  | zero =>
    intro j hj
    obtain rfl : j = n := by omega
    refine Ev.step1 h (fun k hk => ?_)
    simp only [rng_Shuffle.l0]
    rw [if_neg (by omega), List.replicate_zero, List.append_nil]
    exact hk
  | succ d ih =>
    intro j hj
    refine Ev.step1 (ih (j + 1) (by omega)) (fun k hk => ?_)
    simp only [rng_Shuffle.l0]
    rw [if_pos (by omega), if_pos (by omega), if_pos (by rw [List.length_append, iot_length, List.length_replicate]; omega), Int.toNat_natCast, set_fill, wr _ (by omega) (by omega)]
    exact hk
theorem ref_l0' (s : Int) (n : Nat) (hn : n ≤ 1000) (r : List Int × Int × Int) (h : Ev (fun k => skirmishref03_Shuffle.l1 k (iot n) s (wrap64 ((n : Int) - 1))) r) :
    ∀ (d j : Nat), j + d = n → Ev (fun k => skirmishref03_Shuffle.l0 k s (n : Int) (iot j) (j : Int)) r := by
  intro d
  induction d with
  | zero =>
    intro j hj
    obtain rfl : j = n := by omega
    refine Ev.step1 h (fun k hk => ?_)
    simp only [skirmishref03_Shuffle.l0]
    rw [if_neg (by omega)]
    exact hk
  | succ d ih =>
    intro j hj
    refine Ev.step1 (ih (j + 1) (by omega)) (fun k hk => ?_)
    simp only [skirmishref03_Shuffle.l0]
    rw [if_pos (by omega), if_pos (by rw [iot_length]; omega), ← iot_succ, wr _ (by omega) (by omega)]
    exact hk

/-- Shuffle's list and state for n numbers. -/
def Whole (n : Nat) (s : Int) (l' : List Int) (s' : Int) : Prop := Shuf (n - 1) s (iot n) l' s'
theorem whole_ex (n : Nat) (s : Int) (hn : n ≤ 1000) : ∃ l' s', Whole n s l' s' := shuf_ex (n - 1) s (iot n) (by omega)
theorem rng_whole {n : Nat} {s : Int} {l' : List Int} {s' : Int} (hn : n ≤ 1000) (h : Whole n s l' s') : Ev (fun k => rng_Shuffle.f k s (n : Int)) (l', s', 0) := by
  have h1 : Ev (fun k => rng_Shuffle.l1 k s (n : Int) (iot n) (wrap64 ((n : Int) - 1)) 0) (l', s', 0) := by
    by_cases h0 : n = 0
    · subst h0
      cases h
      refine Ev.step (f := fun _ => some (iot 0, s, 0)) (fun k => ?_) (Ev.now _)
      simp only [rng_Shuffle.l1]
      rw [if_neg (by unfold wrap64; omega)]
    · have h2 := rng_l1 h n hn (iot_length n) (by omega)
      rw [wr _ (by omega) (by omega)]
      have e : (n : Int) - 1 - ((n - 1 : Nat) : Int) = 0 := by omega
      rw [e] at h2
      exact h2
  have h2 := rng_l0 s n hn _ h1 n 0 (by omega)
  refine Ev.congr (fun k => ?_) h2
  unfold rng_Shuffle.f
  rw [if_neg (by omega), if_neg (by omega), if_pos (by omega), if_pos (by omega)]
  simp only [Option.bind_some, Int.toNat_natCast, List.length_replicate]
  rfl
theorem ref_whole {n : Nat} {s : Int} {l' : List Int} {s' : Int} (hn : n ≤ 1000) (h : Whole n s l' s') : Ev (fun k => skirmishref03_Shuffle.f k s (n : Int)) (l', s', 0) := by
  have h1 : Ev (fun k => skirmishref03_Shuffle.l1 k (iot n) s (wrap64 ((n : Int) - 1))) (l', s', 0) := by
    by_cases h0 : n = 0
    · subst h0
      cases h
      refine Ev.step (f := fun _ => some (iot 0, s, 0)) (fun k => ?_) (Ev.now _)
      simp only [skirmishref03_Shuffle.l1]
      rw [if_neg (by unfold wrap64; omega)]
    · have h2 := ref_l1 h n hn (iot_length n) (by omega)
      rw [wr _ (by omega) (by omega)]
      have e : ((n - 1 : Nat) : Int) = (n : Int) - 1 := by omega
      rw [e] at h2
      exact h2
  have h2 := ref_l0' s n hn _ h1 n 0 (by omega)
  refine Ev.congr (fun k => ?_) h2
  unfold skirmishref03_Shuffle.f
  rw [if_neg (by omega), if_neg (by omega)]
  rfl

end Go.Proofs.Ytfnndfejmmajfaa.Pure
