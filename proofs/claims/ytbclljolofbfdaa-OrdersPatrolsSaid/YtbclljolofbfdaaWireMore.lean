/- What the readers of ints, counts and texts come to, in the program and in the reference. -/
import Derived.Test.YtbclljolofbfdaaWireRead
namespace Go.Proofs.Ytbclljolofbfdaa.Pure
open Go.RowKit Go.Proofs.Ytbclljolofbfdaa.F Go.Proofs.YtbclljolofbfdaaW.PrintWords Go.Proofs.YtbclljolofbfdaaW.PrintLast Go.Proofs.YtbclljolofbfdaaW.PrintMore Go.Proofs.Ytbclljolofbfdaa.Plain

theorem xor_zero64 (a : Nat) (h : a < 18446744073709551616) : Go.bits .xor .u64 (a : Int) 0 = (a : Int) := by
  have := bits_xor_u64_nat a 0 h (by omega)
  rw [Nat.xor_zero] at this
  exact this
theorem xor_ones64 (a : Nat) (h : a < 18446744073709551616) : Go.bits .xor .u64 (a : Int) 18446744073709551615 = ((18446744073709551615 - a : Nat) : Int) := by
  have h0 := bits_xor_u64_nat a 18446744073709551615 h (by omega)
  have e : a ^^^ 18446744073709551615 = 18446744073709551615 - a := by
    have h1 : (~~~ (BitVec.ofNat 64 a)).toNat = 18446744073709551615 - a := by
      rw [BitVec.toNat_not, BitVec.toNat_ofNat, Nat.mod_eq_of_lt h]
    have h2 : (BitVec.ofNat 64 a ^^^ BitVec.allOnes 64).toNat = 18446744073709551615 - a := by
      rw [BitVec.xor_allOnes]
      exact h1
    rw [BitVec.toNat_xor, BitVec.toNat_ofNat, Nat.mod_eq_of_lt h] at h2
    exact h2
  rw [e] at h0
  exact h0
theorem and_one64 (u : Nat) (h : u < 18446744073709551616) : Go.bits .and .u64 (u : Int) 1 = ((u % 2 : Nat) : Int) := by
  have hw : ∀ n : Int, 0 ≤ n → n < 2 ^ 64 → IntKind.u64.wrap n = n := by
    intro n h0 h1
    rw [w64]
    omega
  have hb := bits_mask .u64 64 (by decide) hw 1 (by omega) (u : Int) (by omega) (by omega)
  have e : (2 : Int) ^ 1 - 1 = 1 := by decide
  rw [e] at hb
  rw [hb]
  omega

/-! ints -/
theorem int_of_u (u : Nat) (h : u < 18446744073709551616) : wrap64 (Go.bits .xor .u64 ((u : Int) / 2) (IntKind.u64.wrap (-(Go.bits .and .u64 (u : Int) 1)))) = unzz u := by
  rw [and_one64 u h]
  have e2 : ((u : Int) / 2) = ((u / 2 : Nat) : Int) := by omega
  rw [e2]
  unfold unzz
  by_cases h1 : u % 2 = 1
  · have e : IntKind.u64.wrap (-((u % 2 : Nat) : Int)) = 18446744073709551615 := by rw [w64, h1]; decide
    rw [e, xor_ones64 _ (by omega), if_pos h1]
    unfold wrap64
    omega
  · have h0 : u % 2 = 0 := by omega
    have e : IntKind.u64.wrap (-((u % 2 : Nat) : Int)) = 0 := by rw [w64, h0]; decide
    rw [e, xor_zero64 _ (by omega), if_neg h1]
    unfold wrap64
    omega
theorem u_of_int (n : Int) (h0 : -9223372036854775808 ≤ n) (h1 : n ≤ 9223372036854775807) : Go.bits .xor .u64 (IntKind.u64.wrap (IntKind.u64.wrap n * 2)) (IntKind.u64.wrap (n / 9223372036854775808)) = ((zz n : Nat) : Int) := by
  have hz := zz_lt h0 h1
  unfold zz at hz ⊢
  by_cases hn : n < 0
  · have e1 : IntKind.u64.wrap (n / 9223372036854775808) = 18446744073709551615 := by rw [w64]; omega
    have e2 : IntKind.u64.wrap (IntKind.u64.wrap n * 2) = ((2 * n + 18446744073709551616).toNat : Int) := by rw [w64, w64]; omega
    rw [e1, e2, xor_ones64 _ (by omega), if_pos hn]
    omega
  · have e1 : IntKind.u64.wrap (n / 9223372036854775808) = 0 := by rw [w64]; omega
    have e2 : IntKind.u64.wrap (IntKind.u64.wrap n * 2) = ((2 * n).toNat : Int) := by rw [w64, w64]; omega
    rw [e1, e2, xor_zero64 _ (by omega), if_neg hn]
theorem wire_int {n : Int} (h0 : -9223372036854775808 ≤ n) (h1 : n ≤ 9223372036854775807) : Ev (fun k => wire_Int.f k n) (eb (zz n)) := by
  unfold wire_Int.f
  rw [u_of_int n h0 h1]
  exact Ev.bind (wire_uint (zz_lt h0 h1)) (Ev.now _)
theorem ref_int {n : Int} (h0 : -9223372036854775808 ≤ n) (h1 : n ≤ 9223372036854775807) : Ev (fun k => skirmishref04_Int.f k n) (eb (zz n)) := by
  have hz := zz_lt h0 h1
  have hu := ref_uint hz
  unfold skirmishref04_Int.f
  by_cases hn : n < 0
  · simp only [if_pos hn]
    have e : IntKind.u64.wrap (IntKind.u64.wrap (2 * IntKind.u64.wrap (wrap64 (-wrap64 (n + 1)))) + 1) = ((zz n : Nat) : Int) := by
      unfold zz
      rw [if_pos hn, wr (n + 1) (by omega) (by omega), wr _ (by omega) (by omega), w64, w64, w64]
      omega
    rw [e]
    exact Ev.bind hu (Ev.now _)
  · simp only [if_neg hn]
    have e : IntKind.u64.wrap (2 * IntKind.u64.wrap n) = ((zz n : Nat) : Int) := by
      unfold zz
      rw [if_neg hn, w64, w64]
      omega
    rw [e]
    exact Ev.bind hu (Ev.now _)

/-- TakeInt's answer. -/
def ti (s : ByteArray) (a : Int) : Int × Int × Int := if (tu s a).2.2 = 0 then (unzz (tu s a).1.toNat, (tu s a).2.1, 0) else (0, 0, (tu s a).2.2)
theorem tu_range (s : ByteArray) (a : Int) : ∃ m : Nat, (tu s a).1 = (m : Int) ∧ m < 18446744073709551616 := by
  by_cases h : (tu s a).2.2 = 0
  · have e : tu s a = ((tu s a).1, (tu s a).2.1, 0) := by rw [← h]
    obtain ⟨_, m, n, hm, _, _, hlt, _, _⟩ := tu_ok e
    exact ⟨m, hm, hlt⟩
  · rw [tu_fail h]
    exact ⟨0, rfl, by omega⟩
theorem wire_ti (s : ByteArray) (hs : s.size ≤ 1000000) (a : Int) : Ev (fun k => wire_TakeInt.f k s a) (ti s a) := by
  unfold wire_TakeInt.f ti
  refine Ev.bind (wire_tu s hs a) ?_
  obtain ⟨m, hm, hlt⟩ := tu_range s a
  rw [hm, int_of_u m hlt, Int.toNat_natCast]
  by_cases h : (tu s a).2.2 = 0
  · simp only [if_pos h]
    exact Ev.now _
  · simp only [if_neg h]
    exact Ev.now _
theorem ref_ti (s : ByteArray) (hs : s.size ≤ 1000000) (a : Int) : Ev (fun k => skirmishref04_TakeInt.f k s a) (ti s a) := by
  unfold skirmishref04_TakeInt.f ti
  refine Ev.bind (ref_tu s hs a) ?_
  obtain ⟨m, hm, hlt⟩ := tu_range s a
  rw [hm, Int.toNat_natCast]
  by_cases h : (tu s a).2.2 = 0
  · simp only [if_pos h]
    have e1 : IntKind.u64.wrap (Int.tdiv (m : Int) 2) = ((m / 2 : Nat) : Int) := by rw [w64, Int.tdiv_eq_ediv_of_nonneg (by omega)]; omega
    have e2 : Int.tmod (m : Int) 2 = ((m % 2 : Nat) : Int) := by rw [Int.tmod_eq_emod_of_nonneg (by omega)]; omega
    rw [e1, e2]
    unfold unzz
    by_cases h1 : m % 2 = 1
    · have e3 : wrap64 (wrap64 (-wrap64 ((m / 2 : Nat) : Int)) - 1) = -((m / 2 : Nat) : Int) - 1 := by
        have g1 := wr ((m / 2 : Nat) : Int) (by omega) (by omega)
        rw [g1, wr (-((m / 2 : Nat) : Int)) (by omega) (by omega), wr _ (by omega) (by omega)]
      rw [if_pos (show ((m % 2 : Nat) : Int) = 1 by omega), e3, if_pos h1]
      exact Ev.now _
    · rw [if_neg (show ¬ ((m % 2 : Nat) : Int) = 1 by omega), wr _ (by omega) (by omega), if_neg h1]
      exact Ev.now _
  · simp only [if_neg h]
    exact Ev.now _
theorem ti_ok {s : ByteArray} {a r nx : Int} (h : ti s a = (r, nx, 0)) : 0 ≤ a ∧ a ≤ nx ∧ nx ≤ (s.size : Int) ∧ -9223372036854775808 ≤ r ∧ r ≤ 9223372036854775807 ∧ s.extract a.toNat nx.toNat = eb (zz r) := by
  unfold ti at h
  by_cases h0 : (tu s a).2.2 = 0
  · rw [if_pos h0] at h
    simp only [Prod.mk.injEq] at h
    obtain ⟨h1, h2, _⟩ := h
    have e : tu s a = ((tu s a).1, (tu s a).2.1, 0) := by rw [← h0]
    obtain ⟨g0, m, n, hm, hn, _, hlt, hsz, hx⟩ := tu_ok e
    rw [h2] at hn hsz hx
    rw [hm, Int.toNat_natCast] at h1
    have hin := unzz_in hlt
    refine ⟨g0, by omega, hsz, by omega, by omega, ?_⟩
    rw [hx, ← h1, zz_unzz]
  · rw [if_neg h0] at h
    simp only [Prod.mk.injEq] at h
    exact absurd h.2.2 h0

/-! counts and texts -/
def tc (s : ByteArray) (a most : Int) : Int × Int × Int :=
  if (tu s a).2.2 = 0 then (if most < 0 ∨ (tu s a).1 > most then (0, 0, 2) else if (tu s a).1 > (s.size : Int) - (tu s a).2.1 then (0, 0, 4) else (tu s a)) else (0, 0, (tu s a).2.2)
theorem tu_pos {s : ByteArray} {a : Int} (h : (tu s a).2.2 = 0) : 0 ≤ a ∧ a ≤ (tu s a).2.1 ∧ (tu s a).2.1 ≤ (s.size : Int) ∧ 0 ≤ (tu s a).1 := by
  have e : tu s a = ((tu s a).1, (tu s a).2.1, 0) := by rw [← h]
  obtain ⟨g0, m, n, hm, hn, _, hlt, hsz, hx⟩ := tu_ok e
  exact ⟨g0, by omega, hsz, by omega⟩
theorem wire_tc (s : ByteArray) (hs : s.size ≤ 1000000) (a most : Int) (hm : most ≤ 9223372036854775807) : Ev (fun k => wire_TakeCount.f k s a most) (tc s a most) := by
  unfold wire_TakeCount.f tc
  refine Ev.bind (wire_tu s hs a) ?_
  by_cases h : (tu s a).2.2 = 0
  · simp only [if_pos h]
    obtain ⟨g0, g1, g2, g3⟩ := tu_pos h
    by_cases h1 : most < 0
    · simp only [if_pos h1, if_pos (show most < 0 ∨ (tu s a).1 > most from .inl h1)]
      exact Ev.in1 (fun k => by simp only [wire_TakeCount.j0]; rw [if_pos trivial])
    · have ew : IntKind.u64.wrap most = most := by rw [w64]; omega
      simp only [if_neg h1, ew]
      by_cases h2 : (tu s a).1 > most
      · rw [if_pos (.inr h2), decide_eq_true h2]
        exact Ev.in1 (fun k => by simp only [wire_TakeCount.j0]; rw [if_pos trivial])
      · rw [if_neg (by omega), decide_eq_false h2]
        refine Ev.in1 (fun k => ?_)
        simp only [wire_TakeCount.j0]
        have e3 : IntKind.u64.wrap (wrap64 ((s.size : Int) - (tu s a).2.1)) = (s.size : Int) - (tu s a).2.1 := by rw [wr _ (by omega) (by omega), w64]; omega
        rw [if_neg (by simp), e3]
        by_cases h3 : (tu s a).1 > (s.size : Int) - (tu s a).2.1
        · rw [if_pos h3, if_pos h3]
        · rw [if_neg h3, if_neg h3, wr _ (by omega) (by omega), ← h]
  · simp only [if_neg h]
    exact Ev.now _
theorem ref_tc (s : ByteArray) (hs : s.size ≤ 1000000) (a most : Int) (hm : most ≤ 9223372036854775807) : Ev (fun k => skirmishref04_TakeCount.f k s a most) (tc s a most) := by
  unfold skirmishref04_TakeCount.f tc
  refine Ev.bind (ref_tu s hs a) ?_
  by_cases h : (tu s a).2.2 = 0
  · simp only [if_pos h]
    obtain ⟨g0, g1, g2, g3⟩ := tu_pos h
    by_cases h1 : most < 0
    · simp only [if_pos h1, if_pos (show most < 0 ∨ (tu s a).1 > most from .inl h1)]
      exact Ev.in1 (fun k => by simp only [skirmishref04_TakeCount.j0]; rw [if_pos trivial])
    · have ew : IntKind.u64.wrap most = most := by rw [w64]; omega
      simp only [if_neg h1, ew]
      by_cases h2 : (tu s a).1 > most
      · rw [if_pos (.inr h2), decide_eq_true h2]
        exact Ev.in1 (fun k => by simp only [skirmishref04_TakeCount.j0]; rw [if_pos trivial])
      · rw [if_neg (by omega), decide_eq_false h2]
        refine Ev.in1 (fun k => ?_)
        simp only [skirmishref04_TakeCount.j0]
        have e3 : IntKind.u64.wrap (wrap64 ((s.size : Int) - (tu s a).2.1)) = (s.size : Int) - (tu s a).2.1 := by rw [wr _ (by omega) (by omega), w64]; omega
        rw [if_neg (by simp), e3]
        by_cases h3 : (tu s a).1 > (s.size : Int) - (tu s a).2.1
        · rw [if_pos h3, if_pos h3]
        · rw [if_neg h3, if_neg h3, wr _ (by omega) (by omega), ← h]
  · simp only [if_neg h]
    exact Ev.now _
theorem tc_ok {s : ByteArray} {a most r nx : Int} (h : tc s a most = (r, nx, 0)) : tu s a = (r, nx, 0) ∧ r ≤ most ∧ 0 ≤ r ∧ nx + r ≤ (s.size : Int) := by
  unfold tc at h
  by_cases h0 : (tu s a).2.2 = 0
  · rw [if_pos h0] at h
    by_cases h1 : most < 0 ∨ (tu s a).1 > most
    · rw [if_pos h1] at h; simp at h
    · rw [if_neg h1] at h
      by_cases h2 : (tu s a).1 > (s.size : Int) - (tu s a).2.1
      · rw [if_pos h2] at h; simp at h
      · rw [if_neg h2] at h
        obtain ⟨_, _, _, g3⟩ := tu_pos h0
        have e1 : (tu s a).1 = r := by rw [h]
        have e2 : (tu s a).2.1 = nx := by rw [h]
        rw [e1] at h1 h2 g3
        rw [e2] at h2
        exact ⟨h, by omega, g3, by omega⟩
  · rw [if_neg h0] at h
    simp only [Prod.mk.injEq] at h
    exact absurd h.2.2 h0

def tt (s : ByteArray) (a most : Int) : ByteArray × Int × Int :=
  if (tc s a most).2.2 = 0 then (s.extract (tc s a most).2.1.toNat ((tc s a most).2.1 + (tc s a most).1).toNat, (tc s a most).2.1 + (tc s a most).1, 0) else (⟨#[]⟩, 0, (tc s a most).2.2)
theorem tc_pos {s : ByteArray} {a most : Int} (h : (tc s a most).2.2 = 0) : 0 ≤ (tc s a most).2.1 ∧ 0 ≤ (tc s a most).1 ∧ (tc s a most).2.1 + (tc s a most).1 ≤ (s.size : Int) := by
  have e : tc s a most = ((tc s a most).1, (tc s a most).2.1, 0) := by rw [← h]
  obtain ⟨h1, h2, h3, h4⟩ := tc_ok e
  obtain ⟨g0, m, n, hm, hn, _, hlt, hsz, hx⟩ := tu_ok h1
  exact ⟨by omega, h3, h4⟩
theorem wire_tt (s : ByteArray) (hs : s.size ≤ 1000000) (a most : Int) (hm : most ≤ 9223372036854775807) : Ev (fun k => wire_TakeText.f k s a most) (tt s a most) := by
  unfold wire_TakeText.f tt
  refine Ev.bind (wire_tc s hs a most hm) ?_
  by_cases h : (tc s a most).2.2 = 0
  · obtain ⟨h1, h2, h3⟩ := tc_pos h
    have e : wrap64 ((tc s a most).2.1 + (tc s a most).1) = (tc s a most).2.1 + (tc s a most).1 := wr _ (by omega) (by omega)
    simp only [if_pos h, e, if_pos h1, if_pos (show (tc s a most).2.1 ≤ (tc s a most).2.1 + (tc s a most).1 by omega), if_pos h3]
    exact Ev.now _
  · simp only [if_neg h]
    exact Ev.now _
theorem ref_tt (s : ByteArray) (hs : s.size ≤ 1000000) (a most : Int) (hm : most ≤ 9223372036854775807) : Ev (fun k => skirmishref04_TakeText.f k s a most) (tt s a most) := by
  unfold skirmishref04_TakeText.f tt
  refine Ev.bind (ref_tc s hs a most hm) ?_
  by_cases h : (tc s a most).2.2 = 0
  · obtain ⟨h1, h2, h3⟩ := tc_pos h
    have e : wrap64 ((tc s a most).2.1 + (tc s a most).1) = (tc s a most).2.1 + (tc s a most).1 := wr _ (by omega) (by omega)
    simp only [if_pos h, e, if_pos h1, if_pos (show (tc s a most).2.1 ≤ (tc s a most).2.1 + (tc s a most).1 by omega), if_pos h3]
    exact Ev.now _
  · simp only [if_neg h]
    exact Ev.now _
/-- A text's encoding. -/
def tb (s : ByteArray) : ByteArray := eb s.size ++ s
theorem wire_text (s : ByteArray) (hs : s.size ≤ 1000000) : Ev (fun k => wire_Text.f k s) (tb s) := by
  unfold wire_Text.f
  have e : IntKind.u64.wrap (s.size : Int) = ((s.size : Nat) : Int) := by rw [w64]; omega
  rw [e]
  refine Ev.bind (wire_uint (by omega)) ?_
  have hl := enc_len10 (n := s.size) (by omega)
  rw [if_pos (by rw [eb_size]; omega)]
  exact Ev.now _
theorem ref_text (s : ByteArray) (hs : s.size ≤ 1000000) : Ev (fun k => skirmishref04_Text.f k s) (tb s) := by
  unfold skirmishref04_Text.f
  have e : IntKind.u64.wrap (s.size : Int) = ((s.size : Nat) : Int) := by rw [w64]; omega
  rw [e]
  refine Ev.bind (ref_uint (by omega)) ?_
  have hl := enc_len10 (n := s.size) (by omega)
  rw [if_pos (by rw [eb_size]; omega)]
  exact Ev.now _
/-- What TakeText has read is the encoding of its result. -/
theorem tt_ok {s r : ByteArray} {a most nx : Int} (h : tt s a most = (r, nx, 0)) : 0 ≤ a ∧ a ≤ nx ∧ nx ≤ (s.size : Int) ∧ r.size ≤ s.size ∧ s.extract a.toNat nx.toNat = tb r := by
  unfold tt at h
  by_cases h0 : (tc s a most).2.2 = 0
  · rw [if_pos h0] at h
    simp only [Prod.mk.injEq] at h
    obtain ⟨h1, h2, _⟩ := h
    have e : tc s a most = ((tc s a most).1, (tc s a most).2.1, 0) := by rw [← h0]
    generalize (tc s a most).1 = u at e h1 h2
    generalize (tc s a most).2.1 = y at e h1 h2
    obtain ⟨k1, k2, k3, k4⟩ := tc_ok e
    obtain ⟨g0, m, n, hm, hn, hlen, hlt, hsz, hx⟩ := tu_ok k1
    have hsize : r.size = m := by
      rw [← h1, ByteArray.size_extract]
      omega
    refine ⟨g0, by omega, by omega, by omega, nb_inj ?_⟩
    unfold tb
    rw [nb_append, hsize, ← hx, ← h1, nb_extract, nb_extract, nb_extract, ← h2]
    have e1 : (y + u).toNat - a.toNat = (y.toNat - a.toNat) + ((y + u).toNat - y.toNat) := by omega
    have e2 : a.toNat + (y.toNat - a.toNat) = y.toNat := by omega
    rw [e1, List.take_add, List.drop_drop, e2]
  · rw [if_neg h0] at h
    simp only [Prod.mk.injEq] at h
    exact absurd h.2.2 h0

end Go.Proofs.Ytbclljolofbfdaa.Pure
