/- What the functions of orders and of its reference come to, in plain words: valid orders, lists that are the same. -/
import Derived.Test.YtbclljolofbfdaaWireMore
import Derived.Test.YtbclljolofbfdaaFx5
import Derived.Test.YtbclljolofbfdaaFx6
import Derived.Test.YtbclljolofbfdaaFx8
import Derived.Test.YtbclljolofbfdaaFx9
import Derived.Test.YtbclljolofbfdaaFx10
import Derived.Test.YtbclljolofbfdaaFx11
import Derived.Test.YtbclljolofbfdaaOpensT
namespace Go.Proofs.Ytbclljolofbfdaa.Pure
set_option linter.unusedVariables false
open Go.RowKit Go.Proofs.Ytbclljolofbfdaa.F Go.Proofs.Ytbclljolofbfdaa.Opens Go.Proofs.YtbclljolofbfdaaW.PrintWords Go.Proofs.YtbclljolofbfdaaW.PrintLast Go.Proofs.YtbclljolofbfdaaW.PrintMore

theorem Ev.step2 {α β : Type} {g : Nat → Option β} {f : Nat → Option α} {r : α} {q : β} (h : Ev f r) (e : ∀ k, f k = some r → g (k + 1) = some q) : Ev g q := by
  obtain ⟨K, hK⟩ := h
  refine ⟨K + 1, fun k hk => ?_⟩
  obtain ⟨k, rfl⟩ : ∃ m, k = m + 1 := ⟨k - 1, by omega⟩
  exact e k (hK k (by omega))

theorem Ev.imp_ {α : Type} {g f : Nat → Option α} {r : α} (h : Ev f r) (e : ∀ k, f k = some r → g k = some r) : Ev g r := by
  obtain ⟨K, hK⟩ := h
  exact ⟨K, fun k hk => e k (hK k hk)⟩

theorem alive_ev : Ev (fun k => skirmishlaw20_alive.f k) true := Ev.of skirmishlaw20_alive.mono (k := 40) (by decide +kernel)

/-! names -/
/-- A letter, a digit or the low line. -/
def chr (c : Int) : Prop := (97 ≤ c ∧ c ≤ 122) ∨ (48 ≤ c ∧ c ≤ 57) ∨ c = 95
instance (c : Int) : Decidable (chr c) := inferInstanceAs (Decidable ((97 ≤ c ∧ c ≤ 122) ∨ (48 ≤ c ∧ c ≤ 57) ∨ c = 95))
def nmFrom (s : ByteArray) : Nat → Nat → Bool
  | 0, _ => true
  | n + 1, j => if chr (bt s (j : Int)) then nmFrom s n (j + 1) else false
/-- A name: at most twelve bytes, the first of them a letter. -/
def nm (s : ByteArray) : Bool := if s.size < 1 ∨ 12 < s.size ∨ bt s 0 < 97 ∨ 122 < bt s 0 then false else nmFrom s s.size 0
theorem rules_l0 (s : ByteArray) (hs : s.size ≤ 12) : ∀ (n j : Nat), j + n = s.size → Ev (fun k => rules_Name.l0 k s (s.size : Int) (j : Int)) (nmFrom s n j) := by
  intro n
  induction n with
  | zero =>
    intro j hj
    refine Ev.in1 (fun k => ?_)
    simp only [rules_Name.l0, nmFrom]
    rw [if_neg (by omega)]
  | succ n ih =>
    intro j hj
    by_cases hc : chr (bt s (j : Int))
    · refine Ev.step2 (ih (j + 1) (by omega)) (fun k hk => ?_)
      simp only [rules_Name.l0, nmFrom, if_pos hc]
      rw [if_pos (by omega), if_pos (by omega), if_pos (by omega), wr _ (by omega) (by omega)]
      unfold chr at hc
      repeat' split
      all_goals first | exact hk | (exfalso; omega)
    · refine Ev.in1 (fun k => ?_)
      simp only [rules_Name.l0, nmFrom, if_neg hc]
      rw [if_pos (by omega), if_pos (by omega), if_pos (by omega), wr _ (by omega) (by omega)]
      unfold chr at hc
      repeat' split
      all_goals first | rfl | (exfalso; omega)
theorem ref09_l0 (s : ByteArray) (hs : s.size ≤ 12) : ∀ (n j : Nat), j + n = s.size → Ev (fun k => skirmishref09_Name.l0 k s (j : Int)) (nmFrom s n j) := by
  intro n
  induction n with
  | zero =>
    intro j hj
    refine Ev.in1 (fun k => ?_)
    simp only [skirmishref09_Name.l0, nmFrom]
    rw [if_neg (by omega)]
  | succ n ih =>
    intro j hj
    by_cases hc : chr (bt s (j : Int))
    · refine Ev.step2 (ih (j + 1) (by omega)) (fun k hk => ?_)
      simp only [skirmishref09_Name.l0, nmFrom, if_pos hc]
      rw [if_pos (by omega), if_pos (by omega), wr _ (by omega) (by omega)]
      unfold chr at hc
      repeat' split
      all_goals first | exact hk | (exfalso; omega)
    · refine Ev.in1 (fun k => ?_)
      simp only [skirmishref09_Name.l0, nmFrom, if_neg hc]
      rw [if_pos (by omega), if_pos (by omega), wr _ (by omega) (by omega)]
      unfold chr at hc
      repeat' split
      all_goals first | rfl | (exfalso; omega)
theorem toList_size (s : ByteArray) : s.toList = [] ↔ s.size = 0 := by
  have h : s.toList.length = s.size := by rw [ByteArray.toList_eq]; rfl
  constructor
  · intro h2
    rw [h2] at h
    exact h.symm
  · intro h2
    exact List.eq_nil_of_length_eq_zero (h.trans h2)
theorem rules_name (s : ByteArray) : Ev (fun k => rules_Name.f k s) (nm s) := by
  have hT : Ev (fun k => rules_Name.j0 k s true) false := Ev.in1 (fun k => by simp only [rules_Name.j0, if_true])
  unfold rules_Name.f nm
  by_cases h0 : s.size < 1
  · rw [if_pos (Or.inl h0)]
    refine Ev.imp_ hT (fun k hk => ?_)
    rw [if_pos ((toList_size s).2 (by omega))]
    exact hk
  · by_cases h1 : 12 < s.size
    · rw [if_pos (by omega)]
      refine Ev.imp_ hT (fun k hk => ?_)
      rw [if_neg (fun h => h0 (by have := (toList_size s).1 h; omega)), if_pos (by omega)]
      exact hk
    · by_cases h2 : bt s 0 < 97
      · rw [if_pos (by omega)]
        refine Ev.imp_ hT (fun k hk => ?_)
        rw [if_neg (fun h => h0 (by have := (toList_size s).1 h; omega)), if_neg (by omega), if_pos (by omega), if_pos h2]
        exact hk
      · by_cases h3 : 122 < bt s 0
        · rw [if_pos (by omega)]
          refine Ev.imp_ hT (fun k hk => ?_)
          rw [if_neg (fun h => h0 (by have := (toList_size s).1 h; omega)), if_neg (by omega), if_pos (by omega), if_neg h2, decide_eq_true h3]
          exact hk
        · rw [if_neg (by omega)]
          refine Ev.step2 (rules_l0 s (by omega) s.size 0 (by omega)) (fun k hk => ?_)
          rw [if_neg (fun h => h0 (by have := (toList_size s).1 h; omega)), if_neg (by omega), if_pos (by omega), if_neg h2, decide_eq_false h3]
          simp only [rules_Name.j0, Bool.false_eq_true, if_false]
          exact hk
theorem ref09_name (s : ByteArray) : Ev (fun k => skirmishref09_Name.f k s) (nm s) := by
  have hT : Ev (fun k => skirmishref09_Name.j0 k s true) false := Ev.in1 (fun k => by simp only [skirmishref09_Name.j0, if_true])
  unfold skirmishref09_Name.f nm
  by_cases h0 : s.size < 1
  · rw [if_pos (Or.inl h0)]
    refine Ev.imp_ hT (fun k hk => ?_)
    rw [if_pos (by omega)]
    exact hk
  · by_cases h1 : 12 < s.size
    · rw [if_pos (by omega)]
      refine Ev.imp_ hT (fun k hk => ?_)
      rw [if_neg (by omega), if_pos (by omega)]
      exact hk
    · by_cases h2 : bt s 0 < 97
      · rw [if_pos (by omega)]
        refine Ev.imp_ hT (fun k hk => ?_)
        rw [if_neg (by omega), if_neg (by omega), if_pos (by omega), if_pos h2]
        exact hk
      · by_cases h3 : 122 < bt s 0
        · rw [if_pos (by omega)]
          refine Ev.imp_ hT (fun k hk => ?_)
          rw [if_neg (by omega), if_neg (by omega), if_pos (by omega), if_neg h2, decide_eq_true h3]
          exact hk
        · rw [if_neg (by omega)]
          refine Ev.step2 (ref09_l0 s (by omega) s.size 0 (by omega)) (fun k hk => ?_)
          rw [if_neg (by omega), if_neg (by omega), if_pos (by omega), if_neg h2, decide_eq_false h3]
          simp only [skirmishref09_Name.j0, Bool.false_eq_true, if_false]
          exact hk

/-! valid orders -/
def clamp (v : Int) : Int := mx (-1048576) (mn v 1048576)
def place (x y : Int) : Bool := x == clamp x && (y == clamp y)
theorem vec_valid_eq (x y : Int) : vec_Valid.f x y = some (place x y) := rfl
theorem ref02_valid_eq (x y : Int) : skirmishref02_Valid.f x y = some (place x y) := by
  have h : ∀ v : Int, mn (mx v (-1048576)) 1048576 = clamp v := fun v => by unfold clamp mn mx; omega
  unfold skirmishref02_Valid.f skirmishref02_NearVec.f skirmishref02_Near.f place
  simp only [Option.bind_some, h]
/-- Is this an order? -/
def vd (a x y t : Int) (s : ByteArray) : Bool :=
  if a = 1 ∨ a = 3 ∨ a = 6 then place x y && (t == 0) && (s.toList == [])
  else if a = 2 then x == 0 && (y == 0) && decide (1 ≤ t) && decide (t ≤ 1099511627776) && (s.toList == [])
  else if a = 4 then place x y && (t == 0) && nm s
  else if a = 5 then x == 0 && (y == 0) && (t == 0) && (s.toList == [])
  else false
theorem valid_j0 (a x y t : Int) (s : ByteArray) (b : Bool) (hb : b = decide (a = 1 ∨ a = 3 ∨ a = 6)) : Ev (fun k => orders_Valid.j0 k a b a x y t s 0 x y t s) (vd a x y t s) := by
  subst hb
  unfold vd
  by_cases h1 : a = 1 ∨ a = 3 ∨ a = 6
  · refine Ev.in1 (fun k => ?_)
    simp only [orders_Valid.j0, decide_eq_true h1, if_true, if_pos h1, vec_valid_eq, Option.bind_some]
    generalize place x y = p
    generalize (t == 0) = q
    generalize (s.toList == []) = e
    cases p <;> cases q <;> cases e <;> rfl
  · by_cases h2 : a = 2
    · refine Ev.in1 (fun k => ?_)
      simp only [orders_Valid.j0, decide_eq_false h1, Bool.false_eq_true, if_false, if_neg h1, if_pos h2]
      generalize (x == 0) = p
      generalize (y == 0) = q
      generalize (s.toList == []) = e
      by_cases h3 : t ≥ 1
      · have h4 : decide (1 ≤ t) = true := decide_eq_true h3
        simp only [h4, if_pos h3]
        generalize decide (t ≤ 1099511627776) = u
        cases p <;> cases q <;> cases e <;> cases u <;> rfl
      · have h4 : decide (1 ≤ t) = false := decide_eq_false h3
        simp only [h4, if_neg h3]
        cases p <;> cases q <;> cases e <;> rfl
    · by_cases h4 : a = 4
      · refine Ev.step2 (rules_name s) (fun k hk => ?_)
        simp only [orders_Valid.j0, decide_eq_false h1, Bool.false_eq_true, if_false, if_neg h1, if_neg h2, if_pos h4, vec_valid_eq, Option.bind_some, hk]
        generalize place x y = p
        generalize (t == 0) = q
        generalize nm s = e
        cases p <;> cases q <;> cases e <;> rfl
      · refine Ev.in1 (fun k => ?_)
        simp only [orders_Valid.j0, decide_eq_false h1, Bool.false_eq_true, if_false, if_neg h1, if_neg h2, if_neg h4]
        by_cases h5 : a = 5
        · simp only [if_pos h5]
          generalize (x == 0) = p
          generalize (y == 0) = q
          generalize (s.toList == []) = e
          generalize (t == 0) = u
          cases p <;> cases q <;> cases e <;> cases u <;> rfl
        · simp only [if_neg h5]
theorem valid_ev (a x y t : Int) (s : ByteArray) : Ev (fun k => orders_Valid.f k a x y t s) (vd a x y t s) := by
  have h := fun b hb => valid_j0 a x y t s b hb
  unfold orders_Valid.f
  by_cases h1 : a = 1
  · refine Ev.imp_ (h (a == 1) (by subst h1; rfl)) (fun k hk => ?_)
    rw [if_pos h1]
    exact hk
  · by_cases h3 : a = 3
    · refine Ev.imp_ (h (a == 3) (by subst h3; rfl)) (fun k hk => ?_)
      rw [if_neg h1, if_pos h3]
      exact hk
    · refine Ev.imp_ (h (a == 6) (by by_cases h6 : a = 6 <;> simp [h1, h3, h6])) (fun k hk => ?_)
      rw [if_neg h1, if_neg h3]
      exact hk
theorem ref_valid_j0 (a x y t : Int) (s : ByteArray) (b : Bool) (hb : b = decide (a = 1 ∨ a = 3 ∨ a = 6)) : Ev (fun k => skirmishref20_Valid.j0 k (place x y) (x == 0 && (y == 0)) a b a x y t s) (vd a x y t s) := by
  subst hb
  unfold vd
  have ht : t = 0 → (t == 0) = true := fun h => beq_iff_eq.2 h
  have ht' : ¬ t = 0 → (t == 0) = false := fun h => beq_eq_false_iff_ne.2 h
  by_cases h1 : a = 1 ∨ a = 3 ∨ a = 6
  · refine Ev.in1 (fun k => ?_)
    simp only [skirmishref20_Valid.j0, decide_eq_true h1, if_true, if_pos h1]
    generalize place x y = p
    generalize (s.toList == []) = e
    by_cases h0 : t = 0
    · simp only [ht h0, if_pos h0]
      cases p <;> cases e <;> rfl
    · simp only [ht' h0, if_neg h0]
      cases p <;> cases e <;> rfl
  · by_cases h2 : a = 2
    · refine Ev.in1 (fun k => ?_)
      simp only [skirmishref20_Valid.j0, decide_eq_false h1, Bool.false_eq_true, if_false, if_neg h1, if_pos h2]
      generalize (x == 0) = p
      generalize (y == 0) = q
      generalize (s.toList == []) = e
      by_cases h3 : t ≥ 1
      · have h4 : decide (1 ≤ t) = true := decide_eq_true h3
        simp only [h4, if_pos h3]
        by_cases h5 : t ≤ 1099511627776
        · simp only [decide_eq_true h5, if_pos h5]
          cases p <;> cases q <;> cases e <;> rfl
        · simp only [decide_eq_false h5, if_neg h5]
          cases p <;> cases q <;> cases e <;> rfl
      · have h4 : decide (1 ≤ t) = false := decide_eq_false h3
        simp only [h4, if_neg h3]
        cases p <;> cases q <;> cases e <;> rfl
    · by_cases h4 : a = 4
      · refine Ev.step2 (ref09_name s) (fun k hk => ?_)
        simp only [skirmishref20_Valid.j0, decide_eq_false h1, Bool.false_eq_true, if_false, if_neg h1, if_neg h2, if_pos h4, hk, Option.bind_some]
        generalize place x y = p
        generalize nm s = e
        by_cases h0 : t = 0
        · simp only [ht h0, if_pos h0]
          cases p <;> cases e <;> rfl
        · simp only [ht' h0, if_neg h0]
          cases p <;> cases e <;> rfl
      · refine Ev.in1 (fun k => ?_)
        simp only [skirmishref20_Valid.j0, decide_eq_false h1, Bool.false_eq_true, if_false, if_neg h1, if_neg h2, if_neg h4]
        by_cases h5 : a = 5
        · simp only [if_pos h5]
          generalize (x == 0) = p
          generalize (y == 0) = q
          generalize (s.toList == []) = e
          by_cases h0 : t = 0
          · simp only [ht h0, if_pos h0]
            cases p <;> cases q <;> cases e <;> rfl
          · simp only [ht' h0, if_neg h0]
            cases p <;> cases q <;> cases e <;> rfl
        · simp only [if_neg h5]
theorem ref_valid_ev (a x y t : Int) (s : ByteArray) : Ev (fun k => skirmishref20_Valid.f k a x y t s) (vd a x y t s) := by
  have h := fun b hb => ref_valid_j0 a x y t s b hb
  unfold skirmishref20_Valid.f
  simp only [ref02_valid_eq, Option.bind_some]
  by_cases h1 : a = 1
  · refine Ev.imp_ (h (a == 1) (by subst h1; rfl)) (fun k hk => ?_)
    rw [if_pos h1]
    exact hk
  · by_cases h3 : a = 3
    · refine Ev.imp_ (h (a == 3) (by subst h3; rfl)) (fun k hk => ?_)
      rw [if_neg h1, if_pos h3]
      exact hk
    · refine Ev.imp_ (h (a == 6) (by by_cases h6 : a = 6 <;> simp [h1, h3, h6])) (fun k hk => ?_)
      rw [if_neg h1, if_neg h3]
      exact hk

/-! lists -/
theorem same_l0 (l : List S28) (hl : l.length ≤ 1000000) : ∀ (n j : Nat), j + n = l.length → Ev (fun k => skirmishref20_Same.l0 k l l (j : Int)) true := by
  intro n
  induction n with
  | zero =>
    intro j hj
    refine Ev.in1 (fun k => ?_)
    simp only [skirmishref20_Same.l0]
    rw [if_neg (by omega)]
  | succ n ih =>
    intro j hj
    refine Ev.step2 (ih (j + 1) (by omega)) (fun k hk => ?_)
    simp only [skirmishref20_Same.l0, beq_self_eq_true, Bool.not_true, Bool.or_self, Bool.false_eq_true, if_false]
    rw [if_pos (by omega), if_pos (by omega), if_pos (by omega), wr _ (by omega) (by omega)]
    exact hk
theorem same_ev (l : List S28) (hl : l.length ≤ 1000000) : Ev (fun k => skirmishref20_Same.f k l l) true := by
  unfold skirmishref20_Same.f
  simp only [if_true]
  exact same_l0 l hl l.length 0 (by omega)
theorem rd28 (l : List S28) (j : Nat) (h : j < l.length) : rd_T28 l (j : Int) = l[j] := by
  unfold rd_T28
  rw [Int.toNat_natCast, List.getD_eq_getElem?_getD, List.getElem?_eq_getElem h, Option.getD_some]
theorem small_l0 (l : List S28) (hl : l.length ≤ maxLen) : ∀ (n j : Nat), j + n = l.length →
    ∃ b, Ev (fun k => skirmishlaw20_small.l0 k l (l.length : Int) (j : Int)) b ∧ (b = true → l.length ≤ 100 ∧ ∀ i, j ≤ i → (h : i < l.length) → (l[i]).f3.size ≤ 1000) := by
  intro n
  unfold maxLen at hl
  induction n with
  | zero =>
    intro j hj
    refine ⟨decide ((l.length : Int) ≤ 100), Ev.in1 (fun k => ?_), fun h => ⟨by have := of_decide_eq_true h; omega, fun i h1 h2 => by omega⟩⟩
    simp only [skirmishlaw20_small.l0]
    rw [if_neg (by omega)]
  | succ n ih =>
    intro j hj
    by_cases h6 : ((rd_T28 l (j : Int)).f3.size : Int) > 1000
    · refine ⟨false, Ev.in1 (fun k => ?_), fun h => by cases h⟩
      simp only [skirmishlaw20_small.l0]
      rw [if_pos (by omega), if_pos (by omega), if_pos (by omega), if_pos h6]
    · obtain ⟨b, hb, hb2⟩ := ih (j + 1) (by omega)
      refine ⟨b, Ev.step2 hb (fun k hk => ?_), fun h => ⟨(hb2 h).1, fun i h1 h2 => ?_⟩⟩
      · simp only [skirmishlaw20_small.l0]
        rw [if_pos (by omega), if_pos (by omega), if_pos (by omega), if_neg h6, wr _ (by omega) (by omega)]
        exact hk
      · rcases Nat.lt_or_ge j i with h3 | h3
        · exact (hb2 h).2 i h3 h2
        · obtain rfl : i = j := by omega
          rw [rd28 l i h2] at h6
          omega
theorem small_ev (l : List S28) (hl : l.length ≤ maxLen) : ∃ b, Ev (fun k => skirmishlaw20_small.f k l) b ∧ (b = true → l.length ≤ 100 ∧ ∀ i, (h : i < l.length) → (l[i]).f3.size ≤ 1000) := by
  obtain ⟨b, hb, h2⟩ := small_l0 l hl l.length 0 (by omega)
  exact ⟨b, hb, fun h => ⟨(h2 h).1, fun i hi => (h2 h).2 i (Nat.zero_le _) hi⟩⟩
end Go.Proofs.Ytbclljolofbfdaa.Pure
