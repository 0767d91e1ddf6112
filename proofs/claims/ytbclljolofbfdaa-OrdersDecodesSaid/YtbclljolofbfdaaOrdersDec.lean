/- What Decode of orders and of its reference comes to; what is read is what would be written. -/
import Derived.Test.YtbclljolofbfdaaOrdersEnc
import Derived.Test.YtbclljolofbfdaaFx6
import Derived.Test.YtbclljolofbfdaaFx16
namespace Go.Proofs.Ytbclljolofbfdaa.Pure
set_option linter.unusedVariables false
open Go.RowKit Go.Proofs.Ytbclljolofbfdaa.F Go.Proofs.Ytbclljolofbfdaa.Opens Go.Proofs.YtbclljolofbfdaaW.PrintWords Go.Proofs.YtbclljolofbfdaaW.PrintLast Go.Proofs.YtbclljolofbfdaaW.PrintMore Go.Proofs.Ytbclljolofbfdaa.Plain

theorem Ev.two {α β γ : Type} {g : Nat → Option α} {f : Nat → Option β} {h : Nat → Option γ} {a : α} {b : β} {c : γ} (hg : Ev g a) (hf : Ev f b) (e : ∀ k, g k = some a → f k = some b → h (k + 1) = some c) : Ev h c := by
  obtain ⟨K, hK⟩ := hg
  obtain ⟨L, hL⟩ := hf
  refine ⟨max K L + 1, fun k hk => ?_⟩
  obtain ⟨k, rfl⟩ : ∃ m, k = m + 1 := ⟨k - 1, by omega⟩
  exact e k (hK k (by omega)) (hL k (by omega))
abbrev R7 := Int × Int × Int × Int × ByteArray × Int × Int
def bad (e : Int) : R7 := (0, 0, 0, 0, ⟨#[]⟩, 0, e)
def fin (s : ByteArray) (x p q r t : Int) : R7 := if (tt s x 12).2.2 = 0 then (p, q, r, t, (tt s x 12).1, (tt s x 12).2.1, 0) else bad (tt s x 12).2.2
def s3 (s : ByteArray) (x p q r : Int) : R7 := if (ti s x).2.2 = 0 then fin s (ti s x).2.1 p q r (ti s x).1 else bad (ti s x).2.2
def s2 (s : ByteArray) (x p q : Int) : R7 := if (ti s x).2.2 = 0 then s3 s (ti s x).2.1 p q (ti s x).1 else bad (ti s x).2.2
def s1 (s : ByteArray) (x p : Int) : R7 := if (ti s x).2.2 = 0 then s2 s (ti s x).2.1 p (ti s x).1 else bad (ti s x).2.2
/-- An order, read from a place on. -/
def s0 (s : ByteArray) (x : Int) : R7 := if (ti s x).2.2 = 0 then s1 s (ti s x).2.1 (ti s x).1 else bad (ti s x).2.2
theorem w0 : wrap64 (0 + 1) = 1 := wr (0 + 1) (by decide) (by decide)
theorem w1 : wrap64 (1 + 1) = 2 := wr (1 + 1) (by decide) (by decide)
theorem w2 : wrap64 (2 + 1) = 3 := wr (2 + 1) (by decide) (by decide)
theorem w3 : wrap64 (3 + 1) = 4 := wr (3 + 1) (by decide) (by decide)
theorem read_fin (s : ByteArray) (hs : s.size ≤ 1000000) (x p q r t : Int) (e : ByteArray) : Ev (fun k => orders_read.l0 k s x 4 p q r t e) (fin s x p q r t) := by
  refine Ev.step2 (wire_tt s hs x 12 (by decide)) (fun k hk => ?_)
  have e0 : wire_TakeText.f k s x 12 = some (tt s x 12) := hk
  simp only [orders_read.l0]
  rw [if_neg (by decide), e0, Option.bind_some]
  unfold fin
  by_cases h : (tt s x 12).2.2 = 0
  · rw [if_pos h, if_pos h]
  · rw [if_neg h, if_neg h]
    rfl
theorem read_3 (s : ByteArray) (hs : s.size ≤ 1000000) (x p q r t : Int) (e : ByteArray) : Ev (fun k => orders_read.l0 k s x 3 p q r t e) (s3 s x p q r) := by
  by_cases h : (ti s x).2.2 = 0
  · refine Ev.two (wire_ti s hs x) (read_fin s hs (ti s x).2.1 p q r (ti s x).1 e) (fun k h1 h2 => ?_)
    have e0 : wire_TakeInt.f k s x = some (ti s x) := h1
    have e1 : orders_read.l0 k s (ti s x).2.1 4 p q r (ti s x).1 e = some _ := h2
    simp only [orders_read.l0]
    rw [if_pos (by decide), e0, Option.bind_some, if_pos h, if_neg (by decide), if_neg (by decide), if_neg (by decide), w3, e1]
    unfold s3
    rw [if_pos h]
  · refine Ev.step2 (wire_ti s hs x) (fun k h1 => ?_)
    have e0 : wire_TakeInt.f k s x = some (ti s x) := h1
    simp only [orders_read.l0]
    rw [if_pos (by decide), e0, Option.bind_some, if_neg h]
    unfold s3
    rw [if_neg h]
    rfl
theorem read_2 (s : ByteArray) (hs : s.size ≤ 1000000) (x p q r t : Int) (e : ByteArray) : Ev (fun k => orders_read.l0 k s x 2 p q r t e) (s2 s x p q) := by
  by_cases h : (ti s x).2.2 = 0
  · refine Ev.two (wire_ti s hs x) (read_3 s hs (ti s x).2.1 p q (ti s x).1 t e) (fun k h1 h2 => ?_)
    have e0 : wire_TakeInt.f k s x = some (ti s x) := h1
    have e1 : orders_read.l0 k s (ti s x).2.1 3 p q (ti s x).1 t e = some _ := h2
    simp only [orders_read.l0]
    rw [if_pos (by decide), e0, Option.bind_some, if_pos h, if_neg (by decide), if_neg (by decide), if_pos trivial, w2, e1]
    unfold s2
    rw [if_pos h]
  · refine Ev.step2 (wire_ti s hs x) (fun k h1 => ?_)
    have e0 : wire_TakeInt.f k s x = some (ti s x) := h1
    simp only [orders_read.l0]
    rw [if_pos (by decide), e0, Option.bind_some, if_neg h]
    unfold s2
    rw [if_neg h]
    rfl
theorem read_1 (s : ByteArray) (hs : s.size ≤ 1000000) (x p q r t : Int) (e : ByteArray) : Ev (fun k => orders_read.l0 k s x 1 p q r t e) (s1 s x p) := by
  by_cases h : (ti s x).2.2 = 0
  · refine Ev.two (wire_ti s hs x) (read_2 s hs (ti s x).2.1 p (ti s x).1 r t e) (fun k h1 h2 => ?_)
    have e0 : wire_TakeInt.f k s x = some (ti s x) := h1
    have e1 : orders_read.l0 k s (ti s x).2.1 2 p (ti s x).1 r t e = some _ := h2
    simp only [orders_read.l0]
    rw [if_pos (by decide), e0, Option.bind_some, if_pos h, if_neg (by decide), if_pos trivial, w1, e1]
    unfold s1
    rw [if_pos h]
  · refine Ev.step2 (wire_ti s hs x) (fun k h1 => ?_)
    have e0 : wire_TakeInt.f k s x = some (ti s x) := h1
    simp only [orders_read.l0]
    rw [if_pos (by decide), e0, Option.bind_some, if_neg h]
    unfold s1
    rw [if_neg h]
    rfl
theorem read_0 (s : ByteArray) (hs : s.size ≤ 1000000) (x p q r t : Int) (e : ByteArray) : Ev (fun k => orders_read.l0 k s x 0 p q r t e) (s0 s x ) := by
  by_cases h : (ti s x).2.2 = 0
  · refine Ev.two (wire_ti s hs x) (read_1 s hs (ti s x).2.1 (ti s x).1 q r t e) (fun k h1 h2 => ?_)
    have e0 : wire_TakeInt.f k s x = some (ti s x) := h1
    have e1 : orders_read.l0 k s (ti s x).2.1 1 (ti s x).1 q r t e = some _ := h2
    simp only [orders_read.l0]
    rw [if_pos (by decide), e0, Option.bind_some, if_pos h, if_pos trivial, w0, e1]
    unfold s0
    rw [if_pos h]
  · refine Ev.step2 (wire_ti s hs x) (fun k h1 => ?_)
    have e0 : wire_TakeInt.f k s x = some (ti s x) := h1
    simp only [orders_read.l0]
    rw [if_pos (by decide), e0, Option.bind_some, if_neg h]
    unfold s0
    rw [if_neg h]
    rfl
theorem read_ev (s : ByteArray) (hs : s.size ≤ 1000000) (x : Int) : Ev (fun k => orders_read.f k s x) (s0 s x) := by
  unfold orders_read.f
  exact read_0 s hs x 0 0 0 0 _
theorem one_fin (s : ByteArray) (hs : s.size ≤ 1000000) (x p q r t : Int) (e : ByteArray) : Ev (fun k => skirmishref20_one.l0 k s x 4 p q r t e) (fin s x p q r t) := by
  refine Ev.step2 (ref_tt s hs x 12 (by decide)) (fun k hk => ?_)
  have e0 : skirmishref04_TakeText.f k s x 12 = some (tt s x 12) := hk
  simp only [skirmishref20_one.l0]
  rw [if_neg (by decide), e0, Option.bind_some]
  unfold fin
  by_cases h : (tt s x 12).2.2 = 0
  · rw [if_pos h, if_pos h]
  · rw [if_neg h, if_neg h]
    rfl
theorem one_3 (s : ByteArray) (hs : s.size ≤ 1000000) (x p q r t : Int) (e : ByteArray) : Ev (fun k => skirmishref20_one.l0 k s x 3 p q r t e) (s3 s x p q r) := by
  by_cases h : (ti s x).2.2 = 0
  · refine Ev.two (ref_ti s hs x) (one_fin s hs (ti s x).2.1 p q r (ti s x).1 e) (fun k h1 h2 => ?_)
    have e0 : skirmishref04_TakeInt.f k s x = some (ti s x) := h1
    have e1 : skirmishref20_one.l0 k s (ti s x).2.1 4 p q r (ti s x).1 e = some _ := h2
    simp only [skirmishref20_one.l0]
    rw [if_pos (by decide), e0, Option.bind_some, if_pos h, if_neg (by decide), if_neg (by decide), if_neg (by decide), w3, e1]
    unfold s3
    rw [if_pos h]
  · refine Ev.step2 (ref_ti s hs x) (fun k h1 => ?_)
    have e0 : skirmishref04_TakeInt.f k s x = some (ti s x) := h1
    simp only [skirmishref20_one.l0]
    rw [if_pos (by decide), e0, Option.bind_some, if_neg h]
    unfold s3
    rw [if_neg h]
    rfl
theorem one_2 (s : ByteArray) (hs : s.size ≤ 1000000) (x p q r t : Int) (e : ByteArray) : Ev (fun k => skirmishref20_one.l0 k s x 2 p q r t e) (s2 s x p q) := by
  by_cases h : (ti s x).2.2 = 0
  · refine Ev.two (ref_ti s hs x) (one_3 s hs (ti s x).2.1 p q (ti s x).1 t e) (fun k h1 h2 => ?_)
    have e0 : skirmishref04_TakeInt.f k s x = some (ti s x) := h1
    have e1 : skirmishref20_one.l0 k s (ti s x).2.1 3 p q (ti s x).1 t e = some _ := h2
    simp only [skirmishref20_one.l0]
    rw [if_pos (by decide), e0, Option.bind_some, if_pos h, if_neg (by decide), if_neg (by decide), if_pos trivial, w2, e1]
    unfold s2
    rw [if_pos h]
  · refine Ev.step2 (ref_ti s hs x) (fun k h1 => ?_)
    have e0 : skirmishref04_TakeInt.f k s x = some (ti s x) := h1
    simp only [skirmishref20_one.l0]
    rw [if_pos (by decide), e0, Option.bind_some, if_neg h]
    unfold s2
    rw [if_neg h]
    rfl
theorem one_1 (s : ByteArray) (hs : s.size ≤ 1000000) (x p q r t : Int) (e : ByteArray) : Ev (fun k => skirmishref20_one.l0 k s x 1 p q r t e) (s1 s x p) := by
  by_cases h : (ti s x).2.2 = 0
  · refine Ev.two (ref_ti s hs x) (one_2 s hs (ti s x).2.1 p (ti s x).1 r t e) (fun k h1 h2 => ?_)
    have e0 : skirmishref04_TakeInt.f k s x = some (ti s x) := h1
    have e1 : skirmishref20_one.l0 k s (ti s x).2.1 2 p (ti s x).1 r t e = some _ := h2
    simp only [skirmishref20_one.l0]
    rw [if_pos (by decide), e0, Option.bind_some, if_pos h, if_neg (by decide), if_pos trivial, w1, e1]
    unfold s1
    rw [if_pos h]
  · refine Ev.step2 (ref_ti s hs x) (fun k h1 => ?_)
    have e0 : skirmishref04_TakeInt.f k s x = some (ti s x) := h1
    simp only [skirmishref20_one.l0]
    rw [if_pos (by decide), e0, Option.bind_some, if_neg h]
    unfold s1
    rw [if_neg h]
    rfl
theorem one_0 (s : ByteArray) (hs : s.size ≤ 1000000) (x p q r t : Int) (e : ByteArray) : Ev (fun k => skirmishref20_one.l0 k s x 0 p q r t e) (s0 s x ) := by
  by_cases h : (ti s x).2.2 = 0
  · refine Ev.two (ref_ti s hs x) (one_1 s hs (ti s x).2.1 (ti s x).1 q r t e) (fun k h1 h2 => ?_)
    have e0 : skirmishref04_TakeInt.f k s x = some (ti s x) := h1
    have e1 : skirmishref20_one.l0 k s (ti s x).2.1 1 (ti s x).1 q r t e = some _ := h2
    simp only [skirmishref20_one.l0]
    rw [if_pos (by decide), e0, Option.bind_some, if_pos h, if_pos trivial, w0, e1]
    unfold s0
    rw [if_pos h]
  · refine Ev.step2 (ref_ti s hs x) (fun k h1 => ?_)
    have e0 : skirmishref04_TakeInt.f k s x = some (ti s x) := h1
    simp only [skirmishref20_one.l0]
    rw [if_pos (by decide), e0, Option.bind_some, if_neg h]
    unfold s0
    rw [if_neg h]
    rfl
theorem one_ev (s : ByteArray) (hs : s.size ≤ 1000000) (x : Int) : Ev (fun k => skirmishref20_one.f k s x) (s0 s x) := by
  unfold skirmishref20_one.f
  exact one_0 s hs x 0 0 0 0 _

/-! the lists -/
def mk (b : R7) : S28 := ⟨b.1, ⟨b.2.1, b.2.2.1⟩, b.2.2.2.1, b.2.2.2.2.1⟩
def vo (o : S28) : Bool := vd o.f0 o.f1.f0 o.f1.f1 o.f2 o.f3
def av : List S28 → Bool
  | [] => true
  | o :: r => vo o && av r
/-- n more orders are read, behind those of acc; then all are looked at. -/
def dls (s : ByteArray) : Nat → Int → List S28 → List S28 × Int × Int
  | 0, x, acc => if av acc = true then (acc, x, 0) else ([], 0, 16)
  | n + 1, x, acc => if (s0 s x).2.2.2.2.2.2 = 0 then dls s n (s0 s x).2.2.2.2.2.1 (acc ++ [mk (s0 s x)]) else ([], 0, (s0 s x).2.2.2.2.2.2)
theorem drop_at (l : List S28) (j : Nat) (h : j < l.length) : l.drop j = l[j] :: l.drop (j + 1) := List.drop_eq_getElem_cons h
theorem contains_l0 (l : List S28) (hl : l.length ≤ 1000000) : ∀ (n j : Nat), j + n = l.length → Ev (fun k => api_Order_37.l0 k l (l.length : Int) (j : Int)) (!(av (l.drop j))) := by
  intro n
  induction n with
  | zero =>
    intro j hj
    refine Ev.in1 (fun k => ?_)
    simp only [api_Order_37.l0]
    rw [if_neg (by omega), List.drop_eq_nil_of_le (by omega)]
    rfl
  | succ n ih =>
    intro j hj
    have hjl : j < l.length := by omega
    have hv := valid_ev l[j].f0 l[j].f1.f0 l[j].f1.f1 l[j].f2 l[j].f3
    rw [drop_at l j hjl]
    have hb : ∀ b, vo l[j] = b → vd l[j].f0 l[j].f1.f0 l[j].f1.f1 l[j].f2 l[j].f3 = b := fun b h => h
    cases hvo : vo l[j] with
    | true =>
      rw [hb _ hvo] at hv
      refine Ev.two hv (ih (j + 1) (by omega)) (fun k h1 h2 => ?_)
      have e0 : orders_Valid.f k l[j].f0 l[j].f1.f0 l[j].f1.f1 l[j].f2 l[j].f3 = some true := h1
      simp only [api_Order_37.l0, rd28 l j hjl, av, hvo, Bool.true_and]
      rw [if_pos (by omega), if_pos (by omega), if_pos (by omega), e0, Option.bind_some, if_pos rfl, wr _ (by omega) (by omega)]
      exact h2
    | false =>
      rw [hb _ hvo] at hv
      refine Ev.step2 hv (fun k h1 => ?_)
      have e0 : orders_Valid.f k l[j].f0 l[j].f1.f0 l[j].f1.f1 l[j].f2 l[j].f3 = some false := h1
      simp only [api_Order_37.l0, rd28 l j hjl, av, hvo, Bool.false_and]
      rw [if_pos (by omega), if_pos (by omega), if_pos (by omega), e0, Option.bind_some, if_neg (by decide)]
      rfl
theorem ref_all_l1 (l : List S28) (hl : l.length ≤ 1000000) (x : Int) : ∀ (n j : Nat), j + n = l.length → Ev (fun k => skirmishref20_Decode.l1 k (l.length : Int) x l (j : Int)) (if av (l.drop j) = true then (l, x, 0) else ([], 0, 16)) := by
  intro n
  induction n with
  | zero =>
    intro j hj
    refine Ev.in1 (fun k => ?_)
    simp only [skirmishref20_Decode.l1]
    rw [if_neg (by omega), List.drop_eq_nil_of_le (by omega)]
    rfl
  | succ n ih =>
    intro j hj
    have hjl : j < l.length := by omega
    have hv := ref_valid_ev l[j].f0 l[j].f1.f0 l[j].f1.f1 l[j].f2 l[j].f3
    rw [drop_at l j hjl]
    have hb : ∀ b, vo l[j] = b → vd l[j].f0 l[j].f1.f0 l[j].f1.f1 l[j].f2 l[j].f3 = b := fun b h => h
    cases hvo : vo l[j] with
    | true =>
      rw [hb _ hvo] at hv
      refine Ev.two hv (ih (j + 1) (by omega)) (fun k h1 h2 => ?_)
      have e0 : skirmishref20_Valid.f k l[j].f0 l[j].f1.f0 l[j].f1.f1 l[j].f2 l[j].f3 = some true := h1
      simp only [skirmishref20_Decode.l1, rd28 l j hjl, av, hvo, Bool.true_and]
      rw [if_pos (by omega), if_pos (by omega), if_pos (by omega), e0, Option.bind_some, if_pos rfl, wr _ (by omega) (by omega)]
      exact h2
    | false =>
      rw [hb _ hvo] at hv
      refine Ev.step2 hv (fun k h1 => ?_)
      have e0 : skirmishref20_Valid.f k l[j].f0 l[j].f1.f0 l[j].f1.f1 l[j].f2 l[j].f3 = some false := h1
      simp only [skirmishref20_Decode.l1, rd28 l j hjl, av, hvo, Bool.false_and]
      rw [if_pos (by omega), if_pos (by omega), if_pos (by omega), e0, Option.bind_some, if_neg (by decide)]
      rfl
theorem dec_l0 (s : ByteArray) (hs : s.size ≤ 1000000) (N : Nat) (hN : N ≤ 8) : ∀ (n i : Nat) (x : Int) (acc : List S28), i + n = N → acc.length = i → Ev (fun k => orders_Decode.l0 k s x acc (N : Int) (i : Int)) (dls s n x acc) := by
  intro n
  induction n with
  | zero =>
    intro i x acc hi ha
    have hc := contains_l0 acc (by omega) acc.length 0 (by omega)
    refine Ev.step2 hc (fun k h1 => ?_)
    have e0 : api_Order_37.f k acc = some (!(av acc)) := h1
    simp only [orders_Decode.l0, dls]
    rw [if_neg (by omega), e0, Option.bind_some]
    cases av acc <;> rfl
  | succ n ih =>
    intro i x acc hi ha
    have hr := read_ev s hs x
    by_cases h : (s0 s x).2.2.2.2.2.2 = 0
    · refine Ev.two hr (ih (i + 1) (s0 s x).2.2.2.2.2.1 (acc ++ [mk (s0 s x)]) (by omega) (by rw [List.length_append, ha]; rfl)) (fun k h1 h2 => ?_)
      have e0 : orders_read.f k s x = some (s0 s x) := h1
      simp only [orders_Decode.l0, dls]
      rw [if_pos (by omega), e0, Option.bind_some, if_pos h, if_pos (by omega), wr _ (by omega) (by omega), if_pos h]
      exact h2
    · refine Ev.step2 hr (fun k h1 => ?_)
      have e0 : orders_read.f k s x = some (s0 s x) := h1
      simp only [orders_Decode.l0, dls]
      rw [if_pos (by omega), e0, Option.bind_some, if_neg h, if_neg h]
theorem rdec_l0 (s : ByteArray) (hs : s.size ≤ 1000000) (N : Nat) (hN : N ≤ 8) : ∀ (n i : Nat) (x : Int) (acc : List S28), i + n = N → acc.length = i → Ev (fun k => skirmishref20_Decode.l0 k s (N : Int) x acc (i : Int)) (dls s n x acc) := by
  intro n
  induction n with
  | zero =>
    intro i x acc hi ha
    have hc := ref_all_l1 acc (by omega) x acc.length 0 (by omega)
    refine Ev.step2 hc (fun k h1 => ?_)
    have e1 : (N : Int) = (acc.length : Int) := by omega
    simp only [skirmishref20_Decode.l0, dls]
    rw [if_neg (by omega), e1]
    exact h1
  | succ n ih =>
    intro i x acc hi ha
    have hr := one_ev s hs x
    by_cases h : (s0 s x).2.2.2.2.2.2 = 0
    · refine Ev.two hr (ih (i + 1) (s0 s x).2.2.2.2.2.1 (acc ++ [mk (s0 s x)]) (by omega) (by rw [List.length_append, ha]; rfl)) (fun k h1 h2 => ?_)
      have e0 : skirmishref20_one.f k s x = some (s0 s x) := h1
      simp only [skirmishref20_Decode.l0, dls]
      rw [if_pos (by omega), e0, Option.bind_some, if_pos h, if_pos (by omega), wr _ (by omega) (by omega), if_pos h]
      exact h2
    · refine Ev.step2 hr (fun k h1 => ?_)
      have e0 : skirmishref20_one.f k s x = some (s0 s x) := h1
      simp only [skirmishref20_Decode.l0, dls]
      rw [if_pos (by omega), e0, Option.bind_some, if_neg h, if_neg h]
/-- Decode's answer. -/
def dc (s : ByteArray) (a : Int) : List S28 × Int × Int := if (tc s a 8).2.2 = 0 then dls s (tc s a 8).1.toNat (tc s a 8).2.1 [] else ([], 0, (tc s a 8).2.2)
theorem tc_parts {s : ByteArray} {a m : Int} (h : (tc s a m).2.2 = 0) : tc s a m = ((tc s a m).1, (tc s a m).2.1, 0) := by rw [← h]
theorem dec_ev (s : ByteArray) (hs : s.size ≤ 1000000) (a : Int) : Ev (fun k => orders_Decode.f k s a) (dc s a) := by
  unfold orders_Decode.f dc
  refine Ev.bind (wire_tc s hs a 8 (by decide)) ?_
  by_cases h : (tc s a 8).2.2 = 0
  · simp only [if_pos h]
    obtain ⟨_, h1, h2, _⟩ := tc_ok (tc_parts h)
    have e : (tc s a 8).1 = ((tc s a 8).1.toNat : Int) := by omega
    have hl := dec_l0 s hs (tc s a 8).1.toNat (by omega) (tc s a 8).1.toNat 0 (tc s a 8).2.1 [] (by omega) rfl
    rw [← e] at hl
    exact hl
  · simp only [if_neg h]
    exact Ev.now _
theorem rdec_ev (s : ByteArray) (hs : s.size ≤ 1000000) (a : Int) : Ev (fun k => skirmishref20_Decode.f k s a) (dc s a) := by
  unfold skirmishref20_Decode.f dc
  refine Ev.bind (ref_tc s hs a 8 (by decide)) ?_
  by_cases h : (tc s a 8).2.2 = 0
  · simp only [if_pos h]
    obtain ⟨_, h1, h2, _⟩ := tc_ok (tc_parts h)
    have e : (tc s a 8).1 = ((tc s a 8).1.toNat : Int) := by omega
    have hl := rdec_l0 s hs (tc s a 8).1.toNat (by omega) (tc s a 8).1.toNat 0 (tc s a 8).2.1 [] (by omega) rfl
    rw [← e] at hl
    exact hl
  · simp only [if_neg h]
    exact Ev.now _
theorem dls_len (s : ByteArray) : ∀ (n : Nat) (x : Int) (acc : List S28), (dls s n x acc).1.length ≤ acc.length + n := by
  intro n
  induction n with
  | zero =>
    intro x acc
    unfold dls
    split
    · exact Nat.le_refl _
    · exact Nat.zero_le _
  | succ n ih =>
    intro x acc
    unfold dls
    split
    · have h := ih (s0 s x).2.2.2.2.2.1 (acc ++ [mk (s0 s x)])
      rw [List.length_append] at h
      have h1 : [mk (s0 s x)].length = 1 := rfl
      omega
    · exact Nat.zero_le _
theorem dc_len (s : ByteArray) (a : Int) : (dc s a).1.length ≤ 8 := by
  unfold dc
  by_cases h : (tc s a 8).2.2 = 0
  · rw [if_pos h]
    obtain ⟨_, h1, h2, _⟩ := tc_ok (tc_parts h)
    have := dls_len s (tc s a 8).1.toNat (tc s a 8).2.1 []
    have h0 : ([] : List S28).length = 0 := rfl
    omega
  · rw [if_neg h]
    exact Nat.zero_le _

/-! what is read is what would be written -/
theorem ext_join (s : ByteArray) (a b c : Nat) (h1 : a ≤ b) (h2 : b ≤ c) : s.extract a b ++ s.extract b c = s.extract a c := by
  refine nb_inj ?_
  rw [nb_append, nb_extract, nb_extract, nb_extract]
  have e1 : c - a = (b - a) + (c - b) := by omega
  have e2 : a + (b - a) = b := by omega
  rw [e1, List.take_add, List.drop_drop, e2]
theorem ti_parts {s : ByteArray} {a : Int} (h : (ti s a).2.2 = 0) : ti s a = ((ti s a).1, (ti s a).2.1, 0) := by rw [← h]
theorem tt_parts {s : ByteArray} {a m : Int} (h : (tt s a m).2.2 = 0) : tt s a m = ((tt s a m).1, (tt s a m).2.1, 0) := by rw [← h]
theorem ti_step {s : ByteArray} {a : Int} (h : (ti s a).2.2 = 0) : 0 ≤ a ∧ a ≤ (ti s a).2.1 ∧ (ti s a).2.1 ≤ (s.size : Int) ∧ okI (ti s a).1 ∧ s.extract a.toNat (ti s a).2.1.toNat = eb (zz (ti s a).1) := by
  obtain ⟨h1, h2, h3, h4, h5, h6⟩ := ti_ok (ti_parts h)
  exact ⟨h1, h2, h3, ⟨h4, h5⟩, h6⟩
/-- An order that has been read. -/
def got (s : ByteArray) (x : Int) (o : S28) (nx : Int) : Prop := 0 ≤ x ∧ x ≤ nx ∧ nx ≤ (s.size : Int) ∧ okI o.f0 ∧ okI o.f1.f0 ∧ okI o.f1.f1 ∧ okI o.f2 ∧ s.extract x.toNat nx.toNat = ob o
theorem s0_ok {s : ByteArray} {x : Int} (h : (s0 s x).2.2.2.2.2.2 = 0) : got s x (mk (s0 s x)) (s0 s x).2.2.2.2.2.1 := by
  have hb : ∀ e : Int, ¬ e = 0 → ¬ (bad e).2.2.2.2.2.2 = 0 := fun e he => he
  by_cases h0 : (ti s x).2.2 = 0
  · obtain ⟨a1, a2, a3, a4, a5⟩ := ti_step h0
    unfold s0 at h ⊢
    rw [if_pos h0] at h ⊢
    generalize (ti s x).1 = p at *
    generalize (ti s x).2.1 = x1 at *
    by_cases h1 : (ti s x1).2.2 = 0
    · obtain ⟨b1, b2, b3, b4, b5⟩ := ti_step h1
      unfold s1 at h ⊢
      rw [if_pos h1] at h ⊢
      generalize (ti s x1).1 = q at *
      generalize (ti s x1).2.1 = x2 at *
      by_cases h2 : (ti s x2).2.2 = 0
      · obtain ⟨c1, c2, c3, c4, c5⟩ := ti_step h2
        unfold s2 at h ⊢
        rw [if_pos h2] at h ⊢
        generalize (ti s x2).1 = r at *
        generalize (ti s x2).2.1 = x3 at *
        by_cases h3 : (ti s x3).2.2 = 0
        · obtain ⟨d1, d2, d3, d4, d5⟩ := ti_step h3
          unfold s3 at h ⊢
          rw [if_pos h3] at h ⊢
          generalize (ti s x3).1 = t at *
          generalize (ti s x3).2.1 = x4 at *
          by_cases h4 : (tt s x4 12).2.2 = 0
          · obtain ⟨e1, e2, e3, e4, e5⟩ := tt_ok (tt_parts h4)
            unfold fin at h ⊢
            rw [if_pos h4]
            generalize (tt s x4 12).1 = u at *
            generalize (tt s x4 12).2.1 = x5 at *
            refine ⟨a1, by show x ≤ x5; omega, e3, a4, b4, c4, d4, ?_⟩
            show s.extract x.toNat x5.toNat = ((((eb (zz p) ++ eb (zz q)) ++ eb (zz r)) ++ eb (zz t)) ++ tb u)
            rw [← a5, ← b5, ← c5, ← d5, ← e5, ext_join _ _ _ _ (by omega) (by omega), ext_join _ _ _ _ (by omega) (by omega), ext_join _ _ _ _ (by omega) (by omega), ext_join _ _ _ _ (by omega) (by omega)]
          · unfold fin at h
            rw [if_neg h4] at h
            exact absurd h (hb _ h4)
        · unfold s3 at h
          rw [if_neg h3] at h
          exact absurd h (hb _ h3)
      · unfold s2 at h
        rw [if_neg h2] at h
        exact absurd h (hb _ h2)
    · unfold s1 at h
      rw [if_neg h1] at h
      exact absurd h (hb _ h1)
  · unfold s0 at h
    rw [if_neg h0] at h
    exact absurd h (hb _ h0)
theorem dls_ok (s : ByteArray) : ∀ (n : Nat) (x : Int) (acc L : List S28) (nx : Int), dls s n x acc = (L, nx, 0) → 0 ≤ x → x ≤ (s.size : Int) →
    ∃ R, L = acc ++ R ∧ R.length = n ∧ x ≤ nx ∧ nx ≤ (s.size : Int) ∧ s.extract x.toNat nx.toNat = ecs R ∧ (∀ o ∈ R, okI o.f0 ∧ okI o.f1.f0 ∧ okI o.f1.f1 ∧ okI o.f2) ∧ av L = true := by
  intro n
  induction n with
  | zero =>
    intro x acc L nx h h0 h1
    unfold dls at h
    by_cases hv : av acc = true
    · rw [if_pos hv] at h
      simp only [Prod.mk.injEq] at h
      obtain ⟨rfl, rfl, _⟩ := h
      refine ⟨[], (List.append_nil _).symm, rfl, Int.le_refl _, h1, ?_, fun o ho => by simp at ho, hv⟩
      refine nb_inj ?_
      rw [nb_extract, Nat.sub_self, List.take_zero]
      rfl
    · rw [if_neg hv] at h
      simp only [Prod.mk.injEq] at h
      exact absurd h.2.2 (by decide)
  | succ n ih =>
    intro x acc L nx h h0 h1
    unfold dls at h
    by_cases hv : (s0 s x).2.2.2.2.2.2 = 0
    · rw [if_pos hv] at h
      obtain ⟨g1, g2, g3, g4, g5, g6, g7, g8⟩ := s0_ok hv
      obtain ⟨R, k1, k2, k3, k4, k5, k6, k7⟩ := ih _ _ _ _ h (by omega) g3
      refine ⟨mk (s0 s x) :: R, by rw [k1, List.append_assoc]; rfl, by rw [List.length_cons, k2], by omega, k4, ?_, fun o ho => ?_, k7⟩
      · show _ = ob (mk (s0 s x)) ++ ecs R
        rw [← g8, ← k5, ext_join _ _ _ _ (by omega) (by omega)]
      · rcases List.mem_cons.1 ho with rfl | ho
        · exact ⟨g4, g5, g6, g7⟩
        · exact k6 o ho
    · rw [if_neg hv] at h
      simp only [Prod.mk.injEq] at h
      exact absurd h.2.2 hv
theorem nm_size {s : ByteArray} (h : nm s = true) : s.size ≤ 12 := by
  unfold nm at h
  by_cases h0 : s.size < 1 ∨ 12 < s.size ∨ bt s 0 < 97 ∨ 122 < bt s 0
  · rw [if_pos h0] at h
    cases h
  · omega
theorem vd_name {a x y t : Int} {s : ByteArray} (h : vd a x y t s = true) : s.size ≤ 12 := by
  have he : (s.toList == []) = true → s.size ≤ 12 := fun h2 => by
    have h3 : s.toList = [] := by simpa using h2
    have := (toList_size s).1 h3
    omega
  unfold vd at h
  split at h
  · exact he (Bool.and_eq_true_iff.1 h).2
  · split at h
    · exact he (Bool.and_eq_true_iff.1 h).2
    · split at h
      · exact nm_size (Bool.and_eq_true_iff.1 h).2
      · split at h
        · exact he (Bool.and_eq_true_iff.1 h).2
        · cases h
theorem av_mem : ∀ {l : List S28}, av l = true → ∀ o ∈ l, vo o = true
  | [], _, o, ho => by simp at ho
  | p :: r, h, o, ho => by
    have h2 := Bool.and_eq_true_iff.1 h
    rcases List.mem_cons.1 ho with rfl | ho
    · exact h2.1
    · exact av_mem h2.2 o ho
theorem vo_name {o : S28} (h : vo o = true) : o.f3.size ≤ 12 := vd_name h
theorem dc_ok {s : ByteArray} {a : Int} {L : List S28} {nx : Int} (h : dc s a = (L, nx, 0)) : 0 ≤ a ∧ a ≤ nx ∧ nx ≤ (s.size : Int) ∧ (∀ o ∈ L, okO o 1000) ∧ L.length ≤ 8 ∧ s.extract a.toNat nx.toNat = eb L.length ++ ecs L := by
  have hlen := dc_len s a
  rw [h] at hlen
  unfold dc at h
  by_cases h0 : (tc s a 8).2.2 = 0
  · rw [if_pos h0] at h
    obtain ⟨t1, t2, t3, t4⟩ := tc_ok (tc_parts h0)
    obtain ⟨u0, m, n, hm, hn, hl, hlt, hsz, hx⟩ := tu_ok t1
    obtain ⟨R, k1, k2, k3, k4, k5, k6, k7⟩ := dls_ok s _ _ _ _ _ h (by omega) hsz
    rw [List.nil_append] at k1
    subst k1
    refine ⟨u0, by omega, k4, fun o ho => ?_, hlen, ?_⟩
    · obtain ⟨q1, q2, q3, q4⟩ := k6 o ho
      have := vo_name (av_mem k7 o ho)
      exact ⟨q1, q2, q3, q4, by omega⟩
    · have em : m = L.length := by omega
      rw [← k5, ← em, ← hx, ext_join _ _ _ _ (by omega) (by omega)]
  · rw [if_neg h0] at h
    simp only [Prod.mk.injEq] at h
    exact absurd h.2.2 h0
end Go.Proofs.Ytbclljolofbfdaa.Pure
