/- Every beginning of an encoding that is shorter is refused as cut off; encodings of numbers have 1 to 10 bytes, and those of greater numbers are not shorter: for all values, with texts of at most 2000 bytes. -/
import Derived.Test.YtdjndjgafdfkaaaWireMore
namespace Go.Proofs.Ytdjndjgafdfkaaa.Pure
open Go.RowKit Go.Proofs.Ytdjndjgafdfkaaa.F Go.Proofs.YtdjndjgafdfkaaaW.PrintWords Go.Proofs.YtdjndjgafdfkaaaW.PrintLast Go.Proofs.YtdjndjgafdfkaaaW.PrintMore Go.Proofs.Ytdjndjgafdfkaaa.Plain

theorem ti_cut (m j : Nat) (hm : m < 18446744073709551616) (hj : j < (enc m).length) : ti ((eb m).extract 0 j) 0 = (0, 0, 4) := by
  unfold ti
  rw [tu_cut m j hm hj]
  rfl
theorem size_cut (s : ByteArray) (j : Nat) (h : j ≤ s.size) : (s.extract 0 j).size = j := by
  rw [ByteArray.size_extract]
  omega
theorem tt_cut (s : ByteArray) (hs : s.size ≤ 2000) (j : Nat) (hj : j < (tb s).size) : (tt ((tb s).extract 0 j) 0 2000).2.2 = 4 := by
  have hsz : (tb s).size = (enc s.size).length + s.size := by unfold tb; rw [ByteArray.size_append, eb_size]
  have hn : nb ((tb s).extract 0 j) = (enc s.size ++ nb s).take j := by
    rw [nb_extract]
    unfold tb
    rw [nb_append, nb_eb]
    simp
  have hcut : (tc ((tb s).extract 0 j) 0 2000).2.2 = 4 := by
    by_cases h : j < (enc s.size).length
    · have h4 : tu ((tb s).extract 0 j) 0 = (0, 0, 4) := by
        unfold tu
        rw [if_neg (by omega)]
        show out 0 (dec 10 1 0 ((nb ((tb s).extract 0 j)).drop 0)) = _
        rw [List.drop_zero, hn, List.take_append_of_le_length (by omega), dec_cut 9 1 0 s.size j (by decide) (by omega) h]
        rfl
      unfold tc
      rw [h4]
      rfl
    · have h4 : tu ((tb s).extract 0 j) 0 = ((s.size : Int), (((enc s.size).length : Nat) : Int), 0) := by
        unfold tu
        rw [if_neg (by omega)]
        show out 0 (dec 10 1 0 ((nb ((tb s).extract 0 j)).drop 0)) = _
        rw [List.drop_zero, hn, List.take_append, List.take_of_length_le (by omega), dec_enc 9 1 0 s.size _ (by decide) (by omega) (by omega) (by omega)]
        unfold out
        rw [if_pos rfl]
        simp
      unfold tc
      rw [h4]
      simp only [if_true]
      rw [if_neg (by omega), if_pos (by rw [size_cut _ _ (by omega)]; omega)]
  unfold tt
  rw [if_neg (by rw [hcut]; decide)]
  exact hcut

theorem WireCut (n i : Int) (x : Bool) (s : ByteArray) (m cut : Int) (wn : (Lit.int .u64 n).wf = true) (wi : (Lit.int .i64 i).wf = true) (wm : (Lit.int .u64 m).wf = true) (wc : (Lit.int .i64 cut).wf = true) : ∃ k, skirmishlaw04_WireCut.f k n i x s m cut = some true := by
  have hn := bounds_u64 wn
  have hi := bounds_i64 wi
  have hm := bounds_u64 wm
  have hc := bounds_i64 wc
  refine Ev.rounds (g := fun k => skirmishlaw04_WireCut.f k n i x s m cut) ?_
  unfold skirmishlaw04_WireCut.f
  by_cases h1 : (s.size : Int) > 2000
  · simp only [if_pos h1]
    exact Ev.bind awake_ev (Ev.now true)
  · simp only [if_neg h1]
    obtain ⟨a, rfl⟩ := Int.eq_ofNat_of_zero_le hn.1
    obtain ⟨b, rfl⟩ := Int.eq_ofNat_of_zero_le hm.1
    have ha : a < 18446744073709551616 := by omega
    have hb : b < 18446744073709551616 := by omega
    have hz := zz_lt hi.1 hi.2
    have la := enc_len10 ha
    have la1 := enc_pos a
    have lz := enc_len10 hz
    have lz1 := enc_pos (zz i)
    have ls := enc_len10 (n := s.size) (by omega)
    have ls1 := enc_pos s.size
    have sa := eb_size a
    have sz := eb_size (zz i)
    have sb := eb_size b
    have st : (tb s).size = (enc s.size).length + s.size := by unfold tb; rw [ByteArray.size_append, eb_size]
    have hlast : Ev (fun k => skirmishlaw04_WireCut.j0 k cut (eb a) (eb (zz i)) (tb s) false) true := by
      obtain ⟨c, hcut⟩ : ∃ c : Nat, wrap64 (IntKind.u64.wrap cut / 2) = (c : Int) := by
        refine ⟨(IntKind.u64.wrap cut / 2).toNat, ?_⟩
        rw [w64, wr _ (by omega) (by omega)]
        omega
      have em : ∀ z : Nat, 1 ≤ z → Int.tmod (c : Int) (z : Int) = ((c % z : Nat) : Int) := by
        intro z _
        rw [Int.tmod_eq_emod_of_nonneg (by omega)]
        rfl
      have e1 := em (eb a).size (by omega)
      have e2 := em (eb (zz i)).size (by omega)
      have e3 := em (tb s).size (by omega)
      have l1 : c % (eb a).size < (eb a).size := Nat.mod_lt _ (by omega)
      have l2 : c % (eb (zz i)).size < (eb (zz i)).size := Nat.mod_lt _ (by omega)
      have l3 : c % (tb s).size < (tb s).size := Nat.mod_lt _ (by omega)
      generalize c % (eb a).size = j1 at e1 l1
      generalize c % (eb (zz i)).size = j2 at e2 l2
      generalize c % (tb s).size = j3 at e3 l3
      have r1 := wire_tu ((eb a).extract 0 j1) (by rw [size_cut _ _ (by omega)]; omega) 0
      rw [tu_cut a j1 ha (by omega)] at r1
      have r2 := wire_ti ((eb (zz i)).extract 0 j2) (by rw [size_cut _ _ (by omega)]; omega) 0
      rw [ti_cut (zz i) j2 hz (by omega)] at r2
      have r3 := wire_tt ((tb s).extract 0 j3) (by rw [size_cut _ _ (by omega)]; omega) 0 2000 (by omega)
      have c3 := tt_cut s (by omega) j3 l3
      generalize tt ((tb s).extract 0 j3) 0 2000 = t3 at r3 c3
      have r4 : Ev (fun k => wire_TakeBool.f k (⟨#[]⟩ : ByteArray) 0) (false, 0, 4) := Ev.of (wire_TakeBool.mono _ _) (k := 3) (by decide +kernel)
      have n1 : ¬ ((eb a).size : Int) = 0 := by omega
      have n2 : ¬ ((eb (zz i)).size : Int) = 0 := by omega
      have n3 : ¬ ((tb s).size : Int) = 0 := by omega
      have g : ∀ z : Nat, (0 : Int) ≤ (z : Int) := fun z => by omega
      have u1 : (j1 : Int) ≤ ((eb a).size : Int) := by omega
      have u2 : (j2 : Int) ≤ ((eb (zz i)).size : Int) := by omega
      have u3 : (j3 : Int) ≤ ((tb s).size : Int) := by omega
      obtain ⟨K1, q1⟩ := r1
      obtain ⟨K2, q2⟩ := r2
      obtain ⟨K3, q3⟩ := r3
      obtain ⟨K4, q4⟩ := r4
      obtain ⟨K5, q5⟩ := awake_ev
      refine ⟨K1 + K2 + K3 + K4 + K5 + 1, fun k hk => ?_⟩
      obtain ⟨k, rfl⟩ : ∃ m, k = m + 1 := ⟨k - 1, by omega⟩
      have g1 := q1 k (by omega)
      have g2 := q2 k (by omega)
      have g3 := q3 k (by omega)
      have g4 := q4 k (by omega)
      have g5 := q5 k (by omega)
      simp only at g1 g2 g3 g4 g5
      simp only [skirmishlaw04_WireCut.j0]
      rw [if_neg (by simp), if_neg n1, hcut, e1, e2, e3, if_pos (g j1), if_pos u1, Int.toNat_natCast, g1]
      simp only [Option.bind_some]
      rw [if_neg n2, if_pos (g j2), if_pos u2, Int.toNat_natCast, g2]
      simp only [Option.bind_some]
      rw [if_neg n3, if_pos (g j3), if_pos u3, Int.toNat_natCast, g3]
      simp only [Option.bind_some]
      rw [g4]
      simp only [Option.bind_some]
      rw [if_pos trivial, if_pos trivial, if_pos c3, if_pos trivial, g5]
      rfl
    have sm := enc_mono b a
    refine Ev.bind (wire_uint ha) (Ev.bind (wire_int hi.1 hi.2) (Ev.bind (wire_text s (by omega)) ?_))
    simp only [if_neg (show ¬ ((eb a).size : Int) < 1 by omega), if_neg (show ¬ ((eb a).size : Int) > 10 by omega), if_neg (show ¬ ((eb (zz i)).size : Int) < 1 by omega), if_neg (show ¬ ((eb (zz i)).size : Int) > 10 by omega), if_neg (show ¬ ((tb s).size : Int) < 1 by omega)]
    by_cases hle : (a : Int) ≤ (b : Int)
    · simp only [if_pos hle]
      refine Ev.bind (wire_uint hb) ?_
      have hd : decide (((eb a).size : Int) > ((eb b).size : Int)) = false := decide_eq_false (by have := sm (by omega); omega)
      rw [hd]
      exact hlast
    · simp only [if_neg hle]
      exact hlast

end Go.Proofs.Ytdjndjgafdfkaaa.Pure
