/- What the functions of delay and of its reference come to, in plain words. -/
import Derived.Test.YtankidkjkmfefaaFx2
import Derived.Test.YtankidkjkmfefaaFx3
import Derived.Test.YtankidkjkmfefaaFx4
import Derived.Test.YtankidkjkmfefaaFx6
import Derived.OpenShut
namespace Go.Proofs.Ytankidkjkmfefaa.Pure
open Go.RowKit Go.Proofs.Ytankidkjkmfefaa.F Go.Proofs.YtankidkjkmfefaaW.PrintWords Go.Proofs.YtankidkjkmfefaaW.PrintLast Go.Proofs.YtankidkjkmfefaaW.PrintMore

theorem wr (n : Int) (h0 : -9223372036854775808 ≤ n) (h1 : n ≤ 9223372036854775807) : wrap64 n = n := by unfold wrap64; omega
theorem Ev.step1 {α : Type} {g f : Nat → Option α} {r : α} (h : Ev f r) (e : ∀ k, f k = some r → g (k + 1) = some r) : Ev g r := by
  obtain ⟨K, hK⟩ := h
  refine ⟨K + 1, fun k hk => ?_⟩
  obtain ⟨k, rfl⟩ : ∃ m, k = m + 1 := ⟨k - 1, by omega⟩
  exact e k (hK k (by omega))
theorem Ev.in1 {α : Type} {g : Nat → Option α} {r : α} (e : ∀ k, g (k + 1) = some r) : Ev g r := Ev.step1 (Ev.now r) (fun k _ => e k)
theorem Ev.two {α β γ : Type} {g : Nat → Option α} {f : Nat → Option β} {h : Nat → Option γ} {a : α} {b : β} {c : γ} (hg : Ev g a) (hf : Ev f b) (e : ∀ k, g k = some a → f k = some b → h (k + 1) = some c) : Ev h c := by
  obtain ⟨K, hK⟩ := hg
  obtain ⟨L, hL⟩ := hf
  refine ⟨max K L + 1, fun k hk => ?_⟩
  obtain ⟨k, rfl⟩ : ∃ m, k = m + 1 := ⟨k - 1, by omega⟩
  exact e k (hK k (by omega)) (hL k (by omega))
theorem rd_nat (l : List Int) (j : Nat) : rd l (j : Int) = l.getD j 0 := rfl
theorem getD_drop (l : List Int) (j : Nat) (h : j < l.length) : l.drop j = l.getD j 0 :: l.drop (j + 1) := by
  rw [List.drop_eq_getElem_cons h, List.getD_eq_getElem?_getD, List.getElem?_eq_getElem h]
  rfl

theorem awake_ev : Ev (fun k => skirmishlaw50_awake.f k) true := Ev.of skirmishlaw50_awake.mono (k := 40) (by decide +kernel)

/-- The nearest number from lo to hi. -/
def cl (a lo hi : Int) : Int := mx lo (mn a hi)
theorem clamp_eq (a lo hi : Int) : delay_clamp.f a lo hi = some (cl a lo hi) := rfl
theorem step_eq (a : Int) : delay_step.f a = some (cl a 1 8) := rfl
theorem near_eq (a lo hi : Int) : skirmishref50_near.f a lo hi = some (cl a lo hi) := rfl
theorem cl_range (a lo hi : Int) (h : lo ≤ hi) : lo ≤ cl a lo hi ∧ cl a lo hi ≤ hi := by
  unfold cl mx mn
  omega
theorem cl_in (a lo hi : Int) (h0 : lo ≤ a) (h1 : a ≤ hi) : cl a lo hi = a := by
  unfold cl mx mn
  omega

/-- The greatest lag. -/
def tgt (acc : Int) (l : List Int) : Int := l.foldl (fun m x => mx m (cl x 1 8)) acc
theorem tgt_range (l : List Int) : ∀ acc, 1 ≤ acc → acc ≤ 8 → 1 ≤ tgt acc l ∧ tgt acc l ≤ 8 := by
  induction l with
  | nil => exact fun acc h0 h1 => ⟨h0, h1⟩
  | cons x l ih =>
    intro acc h0 h1
    have := cl_range x 1 8 (by omega)
    exact ih (mx acc (cl x 1 8)) (by unfold mx; omega) (by unfold mx; omega)
/-- The delay after a turn. -/
def nxt (d : Int) (l : List Int) : Int := cl (tgt 1 l) (cl d 1 8 - 1) (cl d 1 8 + 1)

theorem next_l0 (d : Int) (l : List Int) (hl : l.length ≤ 1000) : ∀ (n j : Nat) (acc : Int), j + n = l.length →
    Ev (fun k => delay_Next.l0 k d acc l (l.length : Int) (j : Int)) (cl (tgt acc (l.drop j)) (cl d 1 8 - 1) (cl d 1 8 + 1)) := by
  intro n
  induction n with
  | zero =>
    intro j acc hj
    refine Ev.in1 (fun k => ?_)
    have hd := cl_range d 1 8 (by omega)
    simp only [delay_Next.l0]
    rw [if_neg (by omega), step_eq]
    simp only [Option.bind_some]
    rw [wr _ (by omega) (by omega), wr _ (by omega) (by omega), clamp_eq, List.drop_eq_nil_of_le (by omega)]
    rfl
  | succ n ih =>
    intro j acc hj
    rw [getD_drop l j (by omega)]
    refine Ev.step1 (ih (j + 1) (mx acc (cl (l.getD j 0) 1 8)) (by omega)) (fun k hk => ?_)
    simp only [delay_Next.l0]
    rw [if_pos (by omega), if_pos (by omega), if_pos (by omega), rd_nat, step_eq]
    simp only [Option.bind_some]
    rw [wr _ (by omega) (by omega)]
    exact hk
theorem next_ev (d : Int) (l : List Int) (hl : l.length ≤ 1000) : Ev (fun k => delay_Next.f k d l) (nxt d l) := next_l0 d l hl l.length 0 1 (by omega)
theorem target_l0 (l : List Int) (hl : l.length ≤ 1000) : ∀ (n j : Nat) (acc : Int), j + n = l.length → Ev (fun k => skirmishref50_Target.l0 k l acc (j : Int)) (tgt acc (l.drop j)) := by
  intro n
  induction n with
  | zero =>
    intro j acc hj
    refine Ev.in1 (fun k => ?_)
    simp only [skirmishref50_Target.l0]
    rw [if_neg (by omega), List.drop_eq_nil_of_le (by omega)]
    rfl
  | succ n ih =>
    intro j acc hj
    rw [getD_drop l j (by omega)]
    refine Ev.step1 (ih (j + 1) (mx acc (cl (l.getD j 0) 1 8)) (by omega)) (fun k hk => ?_)
    simp only [skirmishref50_Target.l0]
    rw [if_pos (by omega), if_pos (by omega), rd_nat, near_eq]
    simp only [Option.bind_some]
    rw [wr _ (by omega) (by omega)]
    exact hk
theorem ref_next_ev (d : Int) (l : List Int) (hl : l.length ≤ 1000) : Ev (fun k => skirmishref50_Next.f k d l) (nxt d l) := by
  unfold skirmishref50_Next.f
  rw [near_eq]
  simp only [Option.bind_some]
  refine Ev.bind (target_l0 l hl l.length 0 1 (by omega)) ?_
  have hd := cl_range d 1 8 (by omega)
  rw [List.drop_zero]
  have ht := tgt_range l 1 (by omega) (by omega)
  unfold nxt
  generalize tgt 1 l = t at ht ⊢
  generalize cl d 1 8 = c at hd ⊢
  by_cases h1 : t > c
  · rw [if_pos h1, wr _ (by omega) (by omega)]
    have e : cl t (c - 1) (c + 1) = c + 1 := by unfold cl mx mn; omega
    rw [e]
    exact Ev.now _
  · rw [if_neg h1]
    by_cases h2 : t < c
    · rw [if_pos h2, wr _ (by omega) (by omega)]
      have e : cl t (c - 1) (c + 1) = c - 1 := by unfold cl mx mn; omega
      rw [e]
      exact Ev.now _
    · rw [if_neg h2]
      have e : cl t (c - 1) (c + 1) = c := by unfold cl mx mn; omega
      rw [e]
      exact Ev.now _

/-- The numbers a, a + 1, .., n of them. -/
def rng (a : Int) : Nat → List Int
  | 0 => []
  | n + 1 => a :: rng (a + 1) n
theorem rng_length (n : Nat) : ∀ a, (rng a n).length = n := by
  induction n with
  | zero => exact fun _ => rfl
  | succ n ih => exact fun a => by rw [rng, List.length_cons, ih]
theorem rng_at (n : Nat) : ∀ (a : Int) (j : Nat), j < n → (rng a n).getD j 0 = a + (j : Int) := by
  induction n with
  | zero => exact fun a j h => by omega
  | succ n ih =>
    intro a j h
    cases j with
    | zero => simp [rng]
    | succ j =>
      have := ih (a + 1) j (by omega)
      rw [rng, List.getD_cons_succ, this]
      omega
/-- The turns that are due. -/
def due (turn d sent : Int) : List Int :=
  rng (mx (cl turn 0 1048576) (cl sent (-1) 1048584 + 1)) (cl turn 0 1048576 + cl d 1 8 + 1 - mx (cl turn 0 1048576) (cl sent (-1) 1048584 + 1)).toNat
theorem due_l0 (t d : Int) (ht0 : 0 ≤ t) (ht1 : t ≤ 1048576) : ∀ (n : Nat) (xs : List Int) (a : Int), 0 ≤ a → (t + cl d 1 8 + 1 - a).toNat = n → xs.length + n ≤ 1000 →
    Ev (fun k => delay_Due.l0 k t d xs a) (xs ++ rng a n) := by
  have hd := cl_range d 1 8 (by omega)
  intro n
  induction n with
  | zero =>
    intro xs a ha hn hx
    refine Ev.in1 (fun k => ?_)
    simp only [delay_Due.l0]
    rw [step_eq]
    simp only [Option.bind_some]
    rw [wr _ (by omega) (by omega), if_neg (by omega), rng, List.append_nil]
  | succ n ih =>
    intro xs a ha hn hx
    rw [rng, List.append_cons]
    refine Ev.step1 (ih (xs ++ [a]) (a + 1) (by omega) (by omega) (by rw [List.length_append]; simp only [List.length_cons, List.length_nil]; omega)) (fun k hk => ?_)
    simp only [delay_Due.l0]
    rw [step_eq]
    simp only [Option.bind_some]
    rw [wr (t + cl d 1 8) (by omega) (by omega), if_pos (by omega), if_pos (by omega), wr _ (by omega) (by omega)]
    exact hk
theorem ref_due_l0 (t d : Int) (ht0 : 0 ≤ t) (ht1 : t ≤ 1048576) (hd0 : 1 ≤ d) (hd1 : d ≤ 8) : ∀ (n : Nat) (xs : List Int) (a : Int), 0 ≤ a → (t + d + 1 - a).toNat = n → xs.length + n ≤ 1000 →
    Ev (fun k => skirmishref50_Due.l0 k t d xs a) (xs ++ rng a n) := by
  intro n
  induction n with
  | zero =>
    intro xs a ha hn hx
    refine Ev.in1 (fun k => ?_)
    simp only [skirmishref50_Due.l0]
    rw [wr _ (by omega) (by omega), if_neg (by omega), rng, List.append_nil]
  | succ n ih =>
    intro xs a ha hn hx
    rw [rng, List.append_cons]
    refine Ev.step1 (ih (xs ++ [a]) (a + 1) (by omega) (by omega) (by rw [List.length_append]; simp only [List.length_cons, List.length_nil]; omega)) (fun k hk => ?_)
    simp only [skirmishref50_Due.l0]
    rw [wr (t + d) (by omega) (by omega), if_pos (by omega), if_pos (by omega), wr _ (by omega) (by omega)]
    exact hk
theorem due_ev (turn d sent : Int) : Ev (fun k => delay_Due.f k turn d sent) (due turn d sent) := by
  unfold delay_Due.f due
  rw [clamp_eq, clamp_eq]
  simp only [Option.bind_some]
  have ht := cl_range turn 0 1048576 (by omega)
  have hs := cl_range sent (-1) 1048584 (by omega)
  have hd := cl_range d 1 8 (by omega)
  rw [wr _ (by omega) (by omega)]
  have hm : mx (cl turn 0 1048576) (cl sent (-1) 1048584 + 1) ≥ cl turn 0 1048576 := by unfold mx; omega
  have h := due_l0 (cl turn 0 1048576) d ht.1 ht.2 _ [] (mx (cl turn 0 1048576) (cl sent (-1) 1048584 + 1)) (by omega) rfl (by simp only [List.length_nil]; omega)
  exact h
theorem ref_due_ev (turn d sent : Int) : Ev (fun k => skirmishref50_Due.f k turn d sent) (due turn d sent) := by
  unfold skirmishref50_Due.f due
  rw [near_eq, near_eq, near_eq]
  simp only [Option.bind_some]
  have ht := cl_range turn 0 1048576 (by omega)
  have hs := cl_range sent (-1) 1048584 (by omega)
  have hd := cl_range d 1 8 (by omega)
  rw [wr _ (by omega) (by omega)]
  have hm : mx (cl turn 0 1048576) (cl sent (-1) 1048584 + 1) ≥ cl turn 0 1048576 := by unfold mx; omega
  have h := ref_due_l0 (cl turn 0 1048576) (cl d 1 8) ht.1 ht.2 hd.1 hd.2 _ [] (mx (cl turn 0 1048576) (cl sent (-1) 1048584 + 1)) (by omega) rfl (by simp only [List.length_nil]; omega)
  exact h
theorem due_len (turn d sent : Int) : (due turn d sent).length ≤ 9 := by
  unfold due
  rw [rng_length]
  have ht := cl_range turn 0 1048576 (by omega)
  have hd := cl_range d 1 8 (by omega)
  have hm : mx (cl turn 0 1048576) (cl sent (-1) 1048584 + 1) ≥ cl turn 0 1048576 := by unfold mx; omega
  omega

theorem same_l0 (l : List Int) (hl : l.length ≤ 1000) : ∀ (n j : Nat), j + n = l.length → Ev (fun k => skirmishlaw50_same.l0 k l l (j : Int)) true := by
  intro n
  induction n with
  | zero =>
    intro j hj
    refine Ev.in1 (fun k => ?_)
    simp only [skirmishlaw50_same.l0]
    rw [if_neg (by omega)]
  | succ n ih =>
    intro j hj
    refine Ev.step1 (ih (j + 1) (by omega)) (fun k hk => ?_)
    simp only [skirmishlaw50_same.l0]
    rw [if_pos (by omega), if_pos (by omega), if_pos (by omega), if_pos trivial, wr _ (by omega) (by omega)]
    exact hk
theorem same_ev (l : List Int) (hl : l.length ≤ 1000) : Ev (fun k => skirmishlaw50_same.f k l l) true := by
  unfold skirmishlaw50_same.f
  simp only [if_true]
  exact same_l0 l hl l.length 0 (by omega)

end Go.Proofs.Ytankidkjkmfefaa.Pure
