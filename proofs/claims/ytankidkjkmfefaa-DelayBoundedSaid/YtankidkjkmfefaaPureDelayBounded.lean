/- The delay stays from 1 to 8, changes by at most 1 and reaches the greatest lag after at most 7 turns; at most 9 turns are due, ascending, none before the turn, none that was sent, and nothing behind them: for all numbers and all lists of at most 100 lags. -/
import Derived.Test.YtankidkjkmfefaaDelayLib
namespace Go.Proofs.Ytankidkjkmfefaa.Pure
open Go.RowKit Go.Proofs.Ytankidkjkmfefaa.F Go.Proofs.YtankidkjkmfefaaW.PrintWords Go.Proofs.YtankidkjkmfefaaW.PrintLast Go.Proofs.YtankidkjkmfefaaW.PrintMore

theorem last_ev (x0 x2 : Int) (l : List Int) (hl : l.length ≤ 9) (h : l.length ≠ 0 → ∃ r : List Int, r.length = 0 ∧ Ev (fun k => delay_Due.f k x2 x0 (l.getD (l.length - 1) 0)) r) :
    Ev (fun k => skirmishlaw50_DelayBounded.j3 k x0 x2 l (decide ((l.length : Int) > 9))) true := by
  have hd : decide ((l.length : Int) > 9) = false := decide_eq_false (by omega)
  rw [hd]
  by_cases h0 : l.length = 0
  · refine Ev.step1 awake_ev (fun k hk => ?_)
    simp only [skirmishlaw50_DelayBounded.j3]
    rw [if_neg (by simp), if_pos (by omega), hk]
    rfl
  · obtain ⟨r, hr, hev⟩ := h h0
    refine Ev.two hev awake_ev (fun k h1 h2 => ?_)
    have e : wrap64 ((l.length : Int) - 1) = ((l.length - 1 : Nat) : Int) := by
      have e1 := wr ((l.length : Int) - 1) (by omega) (by omega)
      omega
    simp only [skirmishlaw50_DelayBounded.j3]
    rw [if_neg (by simp), if_neg (by omega), e, if_pos (by omega), if_pos (by omega), rd_nat, h1]
    simp only [Option.bind_some]
    rw [hr, if_pos (by rfl), h2]
    rfl

theorem l2_ev (x0 : Int) (x1 : List Int) (hx1 : x1.length ≤ 1000) (x2 x3 t : Int) (ht : nxt t x1 = t) (a : Int) (n : Nat) (hn : n ≤ 9) (ha0 : 0 ≤ a) (ha1 : a ≤ 2000000) (hs : x3 < a) (htu : mn x2 1048576 ≤ a)
    (hlast : Ev (fun k => skirmishlaw50_DelayBounded.j3 k x0 x2 (rng a n) (decide (((rng a n).length : Int) > 9))) true) :
    ∀ (d j : Nat), j + d = n → Ev (fun k => skirmishlaw50_DelayBounded.l2 k x0 x1 x2 x3 t t (rng a n) (j : Int)) true := by
  intro d
  induction d with
  | zero =>
    intro j hj
    refine Ev.two (next_ev t x1 hx1) hlast (fun k h1 h2 => ?_)
    simp only [skirmishlaw50_DelayBounded.l2]
    rw [if_neg (by rw [rng_length]; omega), if_pos trivial, h1]
    simp only [Option.bind_some]
    rw [ht, if_pos rfl]
    exact h2
  | succ d ih =>
    intro j hj
    refine Ev.step1 (ih (j + 1) (by omega)) (fun k hk => ?_)
    have e1 := wr ((j : Int) + 1) (by omega) (by omega)
    have hat := rng_at n a j (by omega)
    simp only [skirmishlaw50_DelayBounded.l2]
    rw [if_pos (by rw [rng_length]; omega), if_pos (by omega), rd_nat, hat, if_neg (by omega), if_neg (by omega), e1]
    cases j with
    | zero =>
      rw [if_neg (by omega)]
      exact hk
    | succ j =>
      have e2 : wrap64 (((j + 1 : Nat) : Int) - 1) = (j : Int) := by
        have e3 := wr (((j + 1 : Nat) : Int) - 1) (by omega) (by omega)
        omega
      have hat2 := rng_at n a j (by omega)
      rw [if_pos (by omega), e2, if_pos (by omega), if_pos (by rw [rng_length]; omega), rd_nat, hat2, if_pos (by rw [wr _ (by omega) (by omega)]; omega)]
      exact hk

theorem l1_ev (x0 : Int) (x1 : List Int) (hx1 : x1.length ≤ 1000) (x2 x3 t : Int) (ht0 : 1 ≤ t) (ht1 : t ≤ 8) (htt : t = tgt 1 x1) (hdue : Ev (fun k => skirmishlaw50_DelayBounded.l2 k x0 x1 x2 x3 t t (due x2 x0 x3) 0) true) :
    ∀ (d j : Nat) (now : Int), j + d = 7 → 1 ≤ now → now ≤ 8 → t - now ≤ (d : Int) → now - t ≤ (d : Int) → Ev (fun k => skirmishlaw50_DelayBounded.l1 k x0 x1 x2 x3 now t (j : Int)) true := by
  intro d
  induction d with
  | zero =>
    intro j now hj h0 h1 h2 h3
    obtain rfl : now = t := by omega
    refine Ev.two (due_ev x2 x0 x3) hdue (fun k g1 g2 => ?_)
    simp only [skirmishlaw50_DelayBounded.l1]
    rw [if_neg (by omega), g1]
    exact g2
  | succ d ih =>
    intro j now hj h0 h1 h2 h3
    have hc : cl now 1 8 = now := cl_in _ _ _ h0 h1
    have hn : nxt now x1 = if t > now then now + 1 else if t < now then now - 1 else now := by
      unfold nxt
      rw [hc, ← htt]
      unfold cl mx mn
      omega
    have hr : 1 ≤ nxt now x1 ∧ nxt now x1 ≤ 8 ∧ nxt now x1 ≤ now + 1 ∧ now - 1 ≤ nxt now x1 ∧ t - nxt now x1 ≤ (d : Int) ∧ nxt now x1 - t ≤ (d : Int) ∧ (nxt now x1 = now → now = t) := by
      rw [hn]
      omega
    have hnext := next_ev now x1 hx1
    generalize nxt now x1 = m at hr hnext
    clear hn
    refine Ev.two hnext (ih (j + 1) m (by omega) hr.1 hr.2.1 hr.2.2.2.2.1 hr.2.2.2.2.2.1) (fun k g1 g2 => ?_)
    have e1 := wr ((j : Int) + 1) (by omega) (by omega)
    have e2 := wr (now + 1) (by omega) (by omega)
    have e3 := wr (now - 1) (by omega) (by omega)
    simp only [skirmishlaw50_DelayBounded.l1]
    rw [if_pos (by omega), g1]
    simp only [Option.bind_some]
    rw [e1, e2, e3, if_neg (by omega), if_neg (by omega), if_neg (by omega), if_neg (by omega)]
    by_cases h : m = now
    · rw [if_pos h, if_pos (hr.2.2.2.2.2.2 h)]
      exact g2
    · rw [if_neg h]
      exact g2

theorem fold_same (l : List Int) : ∀ acc : Int, 1 ≤ acc → l.foldl (fun m x => mx m (mn x 8)) acc = tgt acc l := by
  induction l with
  | nil => exact fun _ _ => rfl
  | cons x l ih =>
    intro acc h
    have e : mx acc (mn x 8) = mx acc (cl x 1 8) := by
      unfold cl mx mn
      omega
    show l.foldl _ (mx acc (mn x 8)) = tgt (mx acc (cl x 1 8)) l
    rw [e]
    exact ih _ (by unfold mx; omega)

theorem l0_ev (x0 : Int) (x1 : List Int) (hx1 : x1.length ≤ 1000) (x2 x3 now : Int) (h : Ev (fun k => skirmishlaw50_DelayBounded.l1 k x0 x1 x2 x3 now (tgt 1 x1) 0) true) :
    ∀ (d j : Nat) (acc : Int), j + d = x1.length → (x1.drop j).foldl (fun m x => mx m (mn x 8)) acc = tgt 1 x1 → Ev (fun k => skirmishlaw50_DelayBounded.l0 k x0 x1 x2 x3 now acc (j : Int)) true := by
  intro d
  induction d with
  | zero =>
    intro j acc hj ha
    rw [List.drop_eq_nil_of_le (by omega)] at ha
    have ha2 : acc = tgt 1 x1 := ha
    subst ha2
    refine Ev.step1 h (fun k hk => ?_)
    simp only [skirmishlaw50_DelayBounded.l0]
    rw [if_neg (by omega)]
    exact hk
  | succ d ih =>
    intro j acc hj ha
    rw [getD_drop x1 j (by omega)] at ha
    refine Ev.step1 (ih (j + 1) (mx acc (mn (x1.getD j 0) 8)) (by omega) ha) (fun k hk => ?_)
    simp only [skirmishlaw50_DelayBounded.l0]
    rw [if_pos (by omega), if_pos (by omega), rd_nat, wr _ (by omega) (by omega)]
    exact hk

theorem DelayBounded : skirmishlaw50_DelayBounded.Pure := by
  intro d l turn sent _ _ _ _ wt ws
  have bt := bounds_i64 wt
  have bs := bounds_i64 ws
  refine Ev.rounds (g := fun k => skirmishlaw50_DelayBounded.f k d l turn sent) ?_
  unfold skirmishlaw50_DelayBounded.f
  by_cases h : (l.length : Int) > 100
  · simp only [if_pos h]
    exact Ev.bind awake_ev (Ev.now true)
  · simp only [if_neg h]
    have hl : l.length ≤ 1000 := by omega
    have ht := tgt_range l 1 (by omega) (by omega)
    have hfix : nxt (tgt 1 l) l = tgt 1 l := by
      unfold nxt
      rw [cl_in (tgt 1 l) 1 8 ht.1 ht.2]
      exact cl_in _ _ _ (by omega) (by omega)
    have hnow : mx 1 (mn d 8) = cl d 1 8 := rfl
    have hd := cl_range d 1 8 (by omega)
    have h1 := cl_range turn 0 1048576 (by omega)
    have h2 := cl_range sent (-1) 1048584 (by omega)
    have hlen := due_len turn d sent
    refine l0_ev d l hl turn sent _ ?_ l.length 0 1 (by omega) (fold_same l 1 (by omega))
    rw [hnow]
    refine l1_ev d l hl turn sent (tgt 1 l) ht.1 ht.2 rfl ?_ 7 0 (cl d 1 8) rfl hd.1 hd.2 (by omega) (by omega)
    -- the turns that are due
    have hL : due turn d sent = rng (mx (cl turn 0 1048576) (cl sent (-1) 1048584 + 1)) (cl turn 0 1048576 + cl d 1 8 + 1 - mx (cl turn 0 1048576) (cl sent (-1) 1048584 + 1)).toNat := rfl
    have hma : mx (cl turn 0 1048576) (cl sent (-1) 1048584 + 1) ≥ cl turn 0 1048576 ∧ mx (cl turn 0 1048576) (cl sent (-1) 1048584 + 1) ≥ cl sent (-1) 1048584 + 1 ∧ mx (cl turn 0 1048576) (cl sent (-1) 1048584 + 1) ≤ 1048585 := by unfold mx; omega
    have hcs : sent ≤ 1048584 → sent ≤ cl sent (-1) 1048584 := by unfold cl mx mn; omega
    have hcs2 : sent > 1048584 → cl sent (-1) 1048584 = 1048584 := by unfold cl mx mn; omega
    have hct : mn turn 1048576 ≤ cl turn 0 1048576 := by unfold cl mx mn; omega
    generalize hA : mx (cl turn 0 1048576) (cl sent (-1) 1048584 + 1) = a at hL hma
    generalize hN : (cl turn 0 1048576 + cl d 1 8 + 1 - a).toNat = n at hL
    have hn9 : n ≤ 9 := by omega
    have hlast : Ev (fun k => skirmishlaw50_DelayBounded.j3 k d turn (rng a n) (decide (((rng a n).length : Int) > 9))) true := by
      refine last_ev d turn (rng a n) (by rw [rng_length]; omega) (fun h0 => ?_)
      rw [rng_length] at h0
      refine ⟨_, ?_, due_ev turn d _⟩
      have hat := rng_at n a (n - 1) (by omega)
      rw [rng_length, hat]
      unfold due
      rw [rng_length]
      have e3 : cl (a + ((n - 1 : Nat) : Int)) (-1) 1048584 = a + ((n - 1 : Nat) : Int) := cl_in _ _ _ (by omega) (by omega)
      rw [e3]
      unfold mx
      omega
    rw [hL]
    by_cases hz : n = 0
    · subst hz
      refine Ev.two (next_ev (tgt 1 l) l hl) hlast (fun k g1 g2 => ?_)
      simp only [skirmishlaw50_DelayBounded.l2]
      rw [if_neg (by rw [rng_length]; omega), if_pos trivial, g1]
      simp only [Option.bind_some]
      rw [hfix, if_pos rfl]
      exact g2
    · exact l2_ev d l hl turn sent (tgt 1 l) hfix a n hn9 (by omega) (by omega) (by omega) (by omega) hlast n 0 (by omega)

end Go.Proofs.Ytankidkjkmfefaa.Pure
