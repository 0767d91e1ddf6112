/- Plain facts on the generator: the rounds of Below end for every state, and what they come to. -/
import Derived.Test.YtfnndfejmmajfaaFx
import Derived.OpenShut
namespace Go.Proofs.Ytfnndfejmmajfaa.Pure
open Go.RowKit Go.Proofs.Ytfnndfejmmajfaa.F Go.Proofs.YtfnndfejmmajfaaW.PrintWords Go.Proofs.YtfnndfejmmajfaaW.PrintLast

theorem w64 (n : Int) : IntKind.u64.wrap n = n % 18446744073709551616 := IntKind.wrap_u64 n
theorem wr (n : Int) (h0 : -9223372036854775808 ≤ n) (h1 : n ≤ 9223372036854775807) : wrap64 n = n := by unfold wrap64; omega

theorem awake_ev : Ev (fun k => skirmishlaw03_awake.f k) true := Ev.of skirmishlaw03_awake.mono (k := 20) (by decide +kernel)

theorem least {P : Nat → Prop} (h : ∃ n, P n) : ∃ n, P n ∧ ∀ m, m < n → ¬ P m := by
  obtain ⟨n, hn⟩ := h
  induction n using Nat.strongRecOn with
  | ind n ih =>
    by_cases h : ∃ m, m < n ∧ P m
    · obtain ⟨m, hm, hp⟩ := h
      exact ih m hm hp
    · exact ⟨n, hn, fun m hm hp => h ⟨m, hm, hp⟩⟩

def mixf (t : Int) : Int := Go.bits .xor .u64 (IntKind.u64.wrap ((Go.bits .xor .u64 (IntKind.u64.wrap ((Go.bits .xor .u64 t (t / 1073741824)) * 13787848793156543929)) ((IntKind.u64.wrap ((Go.bits .xor .u64 t (t / 1073741824)) * 13787848793156543929)) / 134217728)) * 10723151780598845931)) ((IntKind.u64.wrap ((Go.bits .xor .u64 (IntKind.u64.wrap ((Go.bits .xor .u64 t (t / 1073741824)) * 13787848793156543929)) ((IntKind.u64.wrap ((Go.bits .xor .u64 t (t / 1073741824)) * 13787848793156543929)) / 134217728)) * 10723151780598845931)) / 2147483648)
def ns (a : Int) : Int := IntKind.u64.wrap (a + 11400714819323198485)
def nv (a : Int) : Int := mixf (ns a)
theorem next_eq (a : Int) : rng_Next.f a = some (nv a, ns a) := rfl
theorem next_ref (a : Int) : skirmishref03_Next.f a = some (nv a, ns a) := rfl
theorem ns_eq (a : Int) : ns a = (a + 11400714819323198485) % 18446744073709551616 := w64 _
theorem mixf_zero : mixf 0 = 0 := by decide +kernel
theorem mixf_range (t : Int) : 0 ≤ mixf t ∧ mixf t < 18446744073709551616 := by
  have h : ∀ x y : Int, 0 ≤ Go.bits .xor .u64 x y ∧ Go.bits .xor .u64 x y < 18446744073709551616 := by
    intro x y
    have e : ∃ z, Go.bits .xor .u64 x y = IntKind.u64.wrap z := ⟨_, rfl⟩
    obtain ⟨z, e⟩ := e
    rw [e, w64]
    omega
  exact h _ _
theorem nv_range (a : Int) : 0 ≤ nv a ∧ nv a < 18446744073709551616 := mixf_range _

/-- The states from a on. -/
def st (a : Int) : Nat → Int
  | 0 => a
  | i + 1 => ns (st a i)
theorem st_shift (a : Int) (i : Nat) : st (ns a) i = st a (i + 1) := by
  induction i with
  | zero => rfl
  | succ i ih => show ns (st (ns a) i) = ns (st a (i + 1)); rw [ih]
theorem st_form (a : Int) (i : Nat) : st a i % 18446744073709551616 = (a + (i : Int) * 11400714819323198485) % 18446744073709551616 := by
  induction i with
  | zero => show a % 18446744073709551616 = _; congr 1; omega
  | succ i ih =>
    show ns (st a i) % 18446744073709551616 = _
    rw [ns_eq]
    omega
theorem hits (a : Int) : ∃ i, ns (st a i) = 0 := by
  refine ⟨((-a * 17428512612931826493) % 18446744073709551616 + 18446744073709551616 - 1).toNat, ?_⟩
  rw [ns_eq]
  have h := st_form a ((-a * 17428512612931826493) % 18446744073709551616 + 18446744073709551616 - 1).toNat
  omega

/-- Below takes this value: it is less than the greatest multiple of n up to 2^64. -/
def acc (n v : Int) : Prop := (18446744073709551616 : Int) % n = 0 ∨ v < 18446744073709551616 - (18446744073709551616 : Int) % n
theorem modb (n : Int) (h1 : 1 ≤ n) : 0 ≤ (18446744073709551616 : Int) % n ∧ (18446744073709551616 : Int) % n < n := ⟨Int.emod_nonneg _ (by omega), Int.emod_lt_of_pos _ (by omega)⟩
theorem finds (a n : Int) (h1 : 1 ≤ n) (h2 : n ≤ 9223372036854775807) : ∃ i, acc n (nv (st a i)) ∧ ∀ j, j < i → ¬ acc n (nv (st a j)) := by
  refine least ?_
  obtain ⟨i, hi⟩ := hits a
  refine ⟨i, .inr ?_⟩
  have := modb n h1
  show mixf (ns (st a i)) < _
  rw [hi, mixf_zero]
  omega
theorem mod_a (n : Int) (_h1 : 1 ≤ n) : (18446744073709551616 - n) % n = (18446744073709551616 : Int) % n := by
  have : (18446744073709551616 - n) = 18446744073709551616 + n * (-1) := by omega
  rw [this, Int.add_mul_emod_self_left]
theorem mod_b (n : Int) : ((18446744073709551615 : Int) % n + 1) % n = (18446744073709551616 : Int) % n := by
  rw [Int.emod_add_emod]
  rfl

theorem below_l0 (n : Int) (h1 : 1 ≤ n) (h2 : n ≤ 9223372036854775807) : ∀ (i : Nat) (a : Int) (k : Nat), acc n (nv (st a i)) → (∀ j, j < i → ¬ acc n (nv (st a j))) → i < k →
    rng_Below.l0 k a n ((18446744073709551616 : Int) % n) = some (nv (st a i) % n, st a (i + 1), 0) := by
  intro i
  have hm := modb n h1
  have ht : ∀ v : Int, 0 ≤ v → wrap64 (Int.tmod v n) = v % n := by
    intro v hv
    rw [Int.tmod_eq_emod_of_nonneg hv]
    have := Int.emod_nonneg v (show n ≠ 0 by omega)
    have := Int.emod_lt_of_pos v (show 0 < n by omega)
    exact wr _ (by omega) (by omega)
  have hneg : (18446744073709551616 : Int) % n ≠ 0 → IntKind.u64.wrap (-((18446744073709551616 : Int) % n)) = 18446744073709551616 - (18446744073709551616 : Int) % n := by
    intro h
    rw [w64]
    omega
  induction i with
  | zero =>
    intro a k ha _ hk
    obtain ⟨k, rfl⟩ : ∃ m, k = m + 1 := ⟨k - 1, by omega⟩
    simp only [rng_Below.l0]
    rw [next_eq]
    simp only [Option.bind_some]
    rw [ht _ (nv_range a).1]
    by_cases h0 : (18446744073709551616 : Int) % n = 0
    · rw [if_pos h0, if_neg (by omega)]; rfl
    · rw [if_neg h0, hneg h0]
      rcases ha with ha | ha
      · exact absurd ha h0
      · have ha' : nv a < 18446744073709551616 - (18446744073709551616 : Int) % n := ha
        rw [if_pos ha', if_neg (by omega)]; rfl
  | succ i ih =>
    intro a k ha hn hk
    obtain ⟨k, rfl⟩ : ∃ m, k = m + 1 := ⟨k - 1, by omega⟩
    have hno := hn 0 (by omega)
    have h0 : (18446744073709551616 : Int) % n ≠ 0 := fun h => hno (.inl h)
    have hge : ¬ nv a < 18446744073709551616 - (18446744073709551616 : Int) % n := fun h => hno (.inr h)
    simp only [rng_Below.l0]
    rw [next_eq]
    simp only [Option.bind_some]
    rw [if_neg h0, hneg h0, if_neg hge, ih (ns a) k (by rw [st_shift]; exact ha) (fun j hj => by rw [st_shift]; exact hn (j + 1) (by omega)) (by omega)]
    rw [st_shift, st_shift]

theorem rest_eq (n : Int) (h1 : 1 ≤ n) (h2 : n ≤ 9223372036854775807) : skirmishref03_rest.f n = some ((18446744073709551616 : Int) % n) := by
  have hm := modb n h1
  have a0 := Int.emod_nonneg (18446744073709551615 : Int) (show n ≠ 0 by omega)
  have a1 := Int.emod_lt_of_pos (18446744073709551615 : Int) (show 0 < n by omega)
  unfold skirmishref03_rest.f
  rw [if_neg (by omega), w64, Int.emod_eq_of_lt (by omega) (by omega), Int.tmod_eq_emod_of_nonneg (by omega), mod_b]
theorem accepted_yes (n v : Int) (h1 : 1 ≤ n) (h2 : n ≤ 9223372036854775807) (h : acc n v) : skirmishref03_Accepted.f v n = some true := by
  have hm := modb n h1
  unfold skirmishref03_Accepted.f
  rw [w64, Int.emod_eq_of_lt (by omega) (by omega), rest_eq n h1 h2]
  simp only [Option.bind_some]
  by_cases h0 : (18446744073709551616 : Int) % n = 0
  · rw [if_pos h0]
  · rw [if_neg h0, w64]
    rcases h with h | h
    · exact absurd h h0
    · rw [decide_eq_true (by omega)]
theorem accepted_no (n v : Int) (h1 : 1 ≤ n) (h2 : n ≤ 9223372036854775807) (h : ¬ acc n v) : skirmishref03_Accepted.f v n = some false := by
  have hm := modb n h1
  have h0 : (18446744073709551616 : Int) % n ≠ 0 := fun e => h (.inl e)
  have hge : ¬ v < 18446744073709551616 - (18446744073709551616 : Int) % n := fun e => h (.inr e)
  unfold skirmishref03_Accepted.f
  rw [w64, Int.emod_eq_of_lt (by omega) (by omega), rest_eq n h1 h2]
  simp only [Option.bind_some]
  rw [if_neg h0, w64, decide_eq_false (by omega)]

theorem ref_l0 (n : Int) (h1 : 1 ≤ n) (h2 : n ≤ 9223372036854775807) : ∀ (i : Nat) (a : Int) (k : Nat), acc n (nv (st a i)) → (∀ j, j < i → ¬ acc n (nv (st a j))) → i < k →
    skirmishref03_Below.l0 k n (nv a) (ns a) = some (nv (st a i) % n, st a (i + 1), 0) := by
  intro i
  induction i with
  | zero =>
    intro a k ha _ hk
    obtain ⟨k, rfl⟩ : ∃ m, k = m + 1 := ⟨k - 1, by omega⟩
    simp only [skirmishref03_Below.l0]
    have hv := nv_range a
    have b0 := Int.emod_nonneg (nv a) (show n ≠ 0 by omega)
    have b1 := Int.emod_lt_of_pos (nv a) (show 0 < n by omega)
    rw [accepted_yes n (nv a) h1 h2 ha]
    simp only [Option.bind_some, if_true]
    rw [w64, Int.emod_eq_of_lt (by omega) (by omega), if_neg (by omega), Int.tmod_eq_emod_of_nonneg hv.1, wr _ (by omega) (by omega)]
    rfl
  | succ i ih =>
    intro a k ha hn hk
    obtain ⟨k, rfl⟩ : ∃ m, k = m + 1 := ⟨k - 1, by omega⟩
    simp only [skirmishref03_Below.l0]
    rw [accepted_no n (nv a) h1 h2 (hn 0 (by omega))]
    simp only [Option.bind_some]
    rw [if_neg (by simp), next_ref]
    simp only [Option.bind_some]
    rw [ih (ns a) k (by rw [st_shift]; exact ha) (fun j hj => by rw [st_shift]; exact hn (j + 1) (by omega)) (by omega)]
    rw [st_shift, st_shift]

/-- What a draw below n gives: the number and the next state. -/
def Draw (a n : Int) (r : Int × Int) : Prop := ∃ i, acc n (nv (st a i)) ∧ (∀ j, j < i → ¬ acc n (nv (st a j))) ∧ r = (nv (st a i) % n, st a (i + 1))
theorem draw_ex (a n : Int) (h1 : 1 ≤ n) (h2 : n ≤ 9223372036854775807) : ∃ r, Draw a n r := by
  obtain ⟨i, hi, hj⟩ := finds a n h1 h2
  exact ⟨_, i, hi, hj, rfl⟩
theorem draw_range {a n : Int} {r : Int × Int} (h1 : 1 ≤ n) (h : Draw a n r) : 0 ≤ r.1 ∧ r.1 < n := by
  obtain ⟨i, _, _, rfl⟩ := h
  exact ⟨Int.emod_nonneg _ (by omega), Int.emod_lt_of_pos _ (by omega)⟩
theorem below_draw {a n : Int} {r : Int × Int} (h1 : 1 ≤ n) (h2 : n ≤ 9223372036854775807) (h : Draw a n r) : Ev (fun k => rng_Below.f k a n) (r.1, r.2, 0) := by
  obtain ⟨i, hi, hj, rfl⟩ := h
  refine ⟨i + 1, fun k hk => ?_⟩
  have hm := modb n h1
  show rng_Below.f k a n = _
  unfold rng_Below.f
  have e : IntKind.u64.wrap n = n := by rw [w64]; omega
  rw [if_neg (by omega), e, if_neg (by omega)]
  have e2 : Int.tmod (IntKind.u64.wrap (-n)) n = (18446744073709551616 : Int) % n := by
    have e3 : IntKind.u64.wrap (-n) = 18446744073709551616 - n := by rw [w64]; omega
    rw [e3, Int.tmod_eq_emod_of_nonneg (by omega), mod_a n h1]
  rw [e2]
  exact below_l0 n h1 h2 i a k hi hj (by omega)
theorem ref_draw {a n : Int} {r : Int × Int} (h1 : 1 ≤ n) (h2 : n ≤ 9223372036854775807) (h : Draw a n r) : Ev (fun k => skirmishref03_Below.f k a n) (r.1, r.2, 0) := by
  obtain ⟨i, hi, hj, rfl⟩ := h
  refine ⟨i + 1, fun k hk => ?_⟩
  show skirmishref03_Below.f k a n = _
  unfold skirmishref03_Below.f
  rw [if_neg (by omega), next_ref]
  simp only [Option.bind_some]
  exact ref_l0 n h1 h2 i a k hi hj (by omega)
theorem below_none {a n : Int} (h : n < 1) : Ev (fun k => rng_Below.f k a n) (0, 0, 1) := ⟨0, fun k _ => by show rng_Below.f k a n = _; unfold rng_Below.f; rw [if_pos h]⟩
theorem ref_none {a n : Int} (h : n < 1) : Ev (fun k => skirmishref03_Below.f k a n) (0, 0, 1) := ⟨0, fun k _ => by show skirmishref03_Below.f k a n = _; unfold skirmishref03_Below.f; rw [if_pos h]⟩

end Go.Proofs.Ytfnndfejmmajfaa.Pure
