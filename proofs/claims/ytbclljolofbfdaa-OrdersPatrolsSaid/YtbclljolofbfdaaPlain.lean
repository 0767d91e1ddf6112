/- Numbers in groups of seven bits: their encoding, its decoding, and how the two fit. No program stands here. -/
namespace Go.Proofs.Ytbclljolofbfdaa.Plain

def enc (n : Nat) : List Nat := if n < 128 then [n] else (128 + n % 128) :: enc (n / 128)
termination_by n
decreasing_by omega

theorem enc_small {n : Nat} (h : n < 128) : enc n = [n] := by rw [enc, if_pos h]
theorem enc_big {n : Nat} (h : ¬ n < 128) : enc n = (128 + n % 128) :: enc (n / 128) := by rw [enc, if_neg h]
theorem enc_pos (n : Nat) : 1 ≤ (enc n).length := by
  by_cases h : n < 128
  · rw [enc_small h]; simp
  · rw [enc_big h]; simp
theorem enc_lt (n : Nat) : ∀ c ∈ enc n, c < 256 := by
  induction n using Nat.strongRecOn with
  | ind n ih =>
    intro c hc
    by_cases h : n < 128
    · rw [enc_small h, List.mem_singleton] at hc
      omega
    · rw [enc_big h, List.mem_cons] at hc
      rcases hc with rfl | hc
      · omega
      · exact ih (n / 128) (by omega) c hc
theorem enc_len (d : Nat) : ∀ n, n < 128 ^ (d + 1) → (enc n).length ≤ d + 1 := by
  induction d with
  | zero =>
    intro n h
    rw [enc_small (by simpa using h)]
    simp
  | succ d ih =>
    intro n h
    by_cases h1 : n < 128
    · rw [enc_small h1]; simp
    · rw [enc_big h1, List.length_cons]
      have := ih (n / 128) (by rw [Nat.pow_succ] at h; exact Nat.div_lt_of_lt_mul (by omega))
      omega
theorem enc_len10 {n : Nat} (h : n < 18446744073709551616) : (enc n).length ≤ 10 := enc_len 9 n (by omega)
theorem enc_mono (m : Nat) : ∀ n, n ≤ m → (enc n).length ≤ (enc m).length := by
  induction m using Nat.strongRecOn with
  | ind m ih =>
    intro n h
    by_cases h1 : n < 128
    · rw [enc_small h1]; exact enc_pos m
    · rw [enc_big h1, enc_big (show ¬ m < 128 by omega), List.length_cons, List.length_cons]
      have := ih (m / 128) (by omega) (n / 128) (by omega)
      omega

/-- Reading: the value, how many bytes, the error. d bytes may still come; p is the next group's weight. -/
def dec : Nat → Nat → Nat → List Nat → Nat × Nat × Int
  | 0, _, _, _ => (0, 0, 5)
  | _ + 1, _, _, [] => (0, 0, 4)
  | d + 1, p, acc, c :: l =>
    if d = 0 ∧ 1 < c then (0, 0, 5)
    else if c < 128 then (if c = 0 ∧ d < 9 then (0, 0, 5) else (acc + c * p, 1, 0))
    else if (dec d (128 * p) (acc + c % 128 * p) l).2.2 = 0 then ((dec d (128 * p) (acc + c % 128 * p) l).1, (dec d (128 * p) (acc + c % 128 * p) l).2.1 + 1, 0) else (0, 0, (dec d (128 * p) (acc + c % 128 * p) l).2.2)

theorem sum_eq (m p : Nat) : m % 128 * p + m / 128 * (128 * p) = m * p := by
  rw [← Nat.mul_assoc, ← Nat.add_mul, Nat.mod_add_div']
theorem step_p {p d : Nat} (h : p * 128 ^ (d + 1) = 1180591620717411303424) : 128 * p * 128 ^ d = 1180591620717411303424 := by
  rw [Nat.pow_succ] at h
  rw [← h, Nat.mul_comm 128 p, Nat.mul_assoc, Nat.mul_comm 128]
theorem last_p {p : Nat} (h : p * 128 ^ (0 + 1) = 1180591620717411303424) : p = 9223372036854775808 := by
  simp at h
  omega
theorem less_p {p d : Nat} (h : p * 128 ^ (d + 1 + 1) = 1180591620717411303424) : 128 * p ≤ 9223372036854775808 := by
  have h1 := step_p (step_p h)
  have h2 : 1 ≤ 128 ^ d := Nat.pow_pos (by omega)
  have h3 : 128 * (128 * p) * 1 ≤ 128 * (128 * p) * 128 ^ d := Nat.mul_le_mul_left _ h2
  omega

theorem dec_enc (d : Nat) : ∀ (p acc m : Nat) (rest : List Nat), p * 128 ^ (d + 1) = 1180591620717411303424 → d ≤ 9 → m * p < 18446744073709551616 → (d < 9 → 1 ≤ m) →
    dec (d + 1) p acc (enc m ++ rest) = (acc + m * p, (enc m).length, 0) := by
  induction d with
  | zero =>
    intro p acc m rest hp _ hm h1
    obtain rfl := last_p hp
    have hm2 : m < 128 := by omega
    rw [enc_small hm2]
    simp only [dec, List.singleton_append]
    rw [if_neg (by omega), if_pos hm2, if_neg (by omega)]
    rfl
  | succ d ih =>
    intro p acc m rest hp hd hm h1
    by_cases hs : m < 128
    · rw [enc_small hs]
      simp only [List.singleton_append]
      rw [dec, if_neg (by omega), if_pos hs, if_neg (by omega)]
      rfl
    · rw [enc_big hs]
      have hle : m / 128 * (128 * p) ≤ m * p := by have := sum_eq m p; omega
      have e := ih (128 * p) (acc + (128 + m % 128) % 128 * p) (m / 128) rest (step_p hp) (by omega) (by omega) (by omega)
      simp only [List.cons_append]
      rw [dec, if_neg (by omega), if_neg (by omega), e]
      simp only [if_true, List.length_cons]
      have e2 : (128 + m % 128) % 128 = m % 128 := by omega
      have := sum_eq m p
      rw [e2]
      refine Prod.ext ?_ rfl
      show acc + m % 128 * p + m / 128 * (128 * p) = acc + m * p
      omega

theorem dec_cut (d : Nat) : ∀ (p acc m j : Nat), p * 128 ^ (d + 1) = 1180591620717411303424 → m * p < 18446744073709551616 → j < (enc m).length →
    dec (d + 1) p acc ((enc m).take j) = (0, 0, 4) := by
  induction d with
  | zero =>
    intro p acc m j hp hm hj
    obtain rfl := last_p hp
    have hm2 : m < 128 := by omega
    rw [enc_small hm2] at hj ⊢
    obtain rfl : j = 0 := by simpa using hj
    rfl
  | succ d ih =>
    intro p acc m j hp hm hj
    cases j with
    | zero => rfl
    | succ j =>
      by_cases hs : m < 128
      · rw [enc_small hs] at hj
        simp at hj
      · rw [enc_big hs] at hj ⊢
        have hle : m / 128 * (128 * p) ≤ m * p := by have := sum_eq m p; omega
        have e := ih (128 * p) (acc + (128 + m % 128) % 128 * p) (m / 128) j (step_p hp) (by omega) (by simpa using hj)
        rw [List.take_succ_cons, dec, if_neg (by omega), if_neg (by omega), e]
        rfl

theorem dec_sound (d : Nat) : ∀ (p acc : Nat) (l : List Nat) (r n : Nat), p * 128 ^ (d + 1) = 1180591620717411303424 → d ≤ 9 → (∀ c ∈ l, c < 256) → dec (d + 1) p acc l = (r, n, 0) →
    ∃ m, l.take n = enc m ∧ n = (enc m).length ∧ n ≤ l.length ∧ r = acc + m * p ∧ m * p + p ≤ 18446744073709551616 ∧ (d < 9 → 1 ≤ m) := by
  induction d with
  | zero =>
    intro p acc l r n hp _ hl h
    obtain rfl := last_p hp
    cases l with
    | nil => simp [dec] at h
    | cons c l =>
      rw [dec] at h
      by_cases h1 : 0 = 0 ∧ 1 < c
      · rw [if_pos h1] at h; simp at h
      · rw [if_neg h1] at h
        have hc : c < 128 := by omega
        rw [if_pos hc] at h
        by_cases h2 : c = 0 ∧ 0 < 9
        · rw [if_pos h2] at h; simp at h
        · rw [if_neg h2] at h
          simp only [Prod.mk.injEq] at h
          obtain ⟨rfl, rfl, _⟩ := h
          exact ⟨c, by rw [enc_small hc]; rfl, by rw [enc_small hc]; rfl, by simp, rfl, by omega, fun _ => by omega⟩
  | succ d ih =>
    intro p acc l r n hp hd hl h
    cases l with
    | nil => simp [dec] at h
    | cons c l =>
      have hc256 := hl c List.mem_cons_self
      have hpl := less_p hp
      rw [dec, if_neg (by omega)] at h
      by_cases hc : c < 128
      · rw [if_pos hc] at h
        by_cases h2 : c = 0 ∧ d + 1 < 9
        · rw [if_pos h2] at h; simp at h
        · rw [if_neg h2] at h
          simp only [Prod.mk.injEq] at h
          obtain ⟨rfl, rfl, _⟩ := h
          have h3 : c * p ≤ 127 * p := Nat.mul_le_mul_right _ (by omega)
          exact ⟨c, by rw [enc_small hc]; rfl, by rw [enc_small hc]; rfl, by simp, rfl, by omega, fun _ => by omega⟩
      · rw [if_neg hc] at h
        generalize hr : dec (d + 1) (128 * p) (acc + c % 128 * p) l = x at h
        obtain ⟨r1, n1, e1⟩ := x
        by_cases he : e1 = 0
        · subst he
          simp only [if_true, Prod.mk.injEq] at h
          obtain ⟨rfl, rfl, _⟩ := h
          obtain ⟨m, g1, g2, g3, g4, g5, g6⟩ := ih (128 * p) _ l r1 n1 (step_p hp) (by omega) (fun c hc => hl c (List.mem_cons_of_mem _ hc)) hr
          have hm1 := g6 (by omega)
          have hbig : ¬ (c % 128 + 128 * m) < 128 := by omega
          have e2 : (c % 128 + 128 * m) % 128 = c % 128 := by omega
          have e3 : (c % 128 + 128 * m) / 128 = m := by omega
          have e4 : 128 + c % 128 = c := by omega
          have e5 : (c % 128 + 128 * m) * p = c % 128 * p + m * (128 * p) := by
            rw [Nat.add_mul, Nat.mul_comm 128 m, Nat.mul_assoc]
          have h3 : c % 128 * p ≤ 127 * p := Nat.mul_le_mul_right _ (by omega)
          refine ⟨c % 128 + 128 * m, ?_, ?_, ?_, ?_, ?_, fun _ => by omega⟩
          · rw [enc_big hbig, e2, e3, e4, List.take_succ_cons, g1]
          · rw [enc_big hbig, e3, List.length_cons, ← g2]
          · rw [List.length_cons]; omega
          · rw [e5, g4]; omega
          · rw [e5]; omega
        · simp only [if_neg he, Prod.mk.injEq] at h
          exact absurd h.2.2 he

/-- The least integers first: 0, -1, 1, -2, .. -/
def zz (n : Int) : Nat := if n < 0 then (-2 * n - 1).toNat else (2 * n).toNat
def unzz (u : Nat) : Int := if u % 2 = 1 then -((u / 2 : Nat) : Int) - 1 else ((u / 2 : Nat) : Int)
theorem unzz_zz (n : Int) : unzz (zz n) = n := by
  unfold unzz zz
  by_cases h : n < 0
  · rw [if_pos h, if_pos (by omega)]; omega
  · rw [if_neg h, if_neg (by omega)]; omega
theorem zz_unzz (u : Nat) : zz (unzz u) = u := by
  unfold unzz zz
  by_cases h : u % 2 = 1
  · rw [if_pos h, if_pos (by omega)]; omega
  · rw [if_neg h, if_neg (by omega)]; omega
theorem zz_lt {n : Int} (h0 : -9223372036854775808 ≤ n) (h1 : n ≤ 9223372036854775807) : zz n < 18446744073709551616 := by
  unfold zz
  split <;> omega
theorem unzz_in {u : Nat} (h : u < 18446744073709551616) : -9223372036854775808 ≤ unzz u ∧ unzz u ≤ 9223372036854775807 := by
  unfold unzz
  split <;> omega

end Go.Proofs.Ytbclljolofbfdaa.Plain
