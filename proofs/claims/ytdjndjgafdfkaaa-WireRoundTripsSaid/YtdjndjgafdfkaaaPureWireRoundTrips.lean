/- What wire encodes is decoded, whatever stands around it: for all values, with texts of at most 2000 bytes. -/
import Derived.Test.YtdjndjgafdfkaaaWireMore
import Derived.Test.YtdjndjgafdfkaaaRt
namespace Go.Proofs.Ytdjndjgafdfkaaa.Pure
open Go.RowKit Go.Proofs.Ytdjndjgafdfkaaa.F Go.Proofs.YtdjndjgafdfkaaaW.PrintWords Go.Proofs.YtdjndjgafdfkaaaW.PrintLast Go.Proofs.YtdjndjgafdfkaaaW.PrintMore Go.Proofs.Ytdjndjgafdfkaaa.Plain

theorem sum_wrap (a b : Nat) (h : a + b ≤ 1000000) : wrap64 ((a : Int) + (b : Int)) = ((a + b : Nat) : Int) := by
  rw [wr _ (by omega) (by omega)]
  omega
theorem diff_wrap (a b c : Nat) (h : a + (b + c) ≤ 1000000) : wrap64 (((a + (b + c) : Nat) : Int) - (c : Int)) = ((a + b : Nat) : Int) := by
  rw [wr _ (by omega) (by omega)]
  omega
theorem ti_eb (b c : ByteArray) (n : Int) (h0 : -9223372036854775808 ≤ n) (h1 : n ≤ 9223372036854775807) : ti (b ++ eb (zz n) ++ c) (b.size : Int) = (n, ((b.size + (enc (zz n)).length : Nat) : Int), 0) := by
  unfold ti
  rw [tu_eb b c _ (zz_lt h0 h1)]
  simp only [if_true]
  rw [Int.toNat_natCast, unzz_zz]
theorem tu_tb (b c s : ByteArray) (hs : s.size ≤ 1000000) : tu (b ++ tb s ++ c) (b.size : Int) = ((s.size : Int), ((b.size + (enc s.size).length : Nat) : Int), 0) := by
  have h := tu_eb b (s ++ c) s.size (by omega)
  have e : b ++ eb s.size ++ (s ++ c) = b ++ tb s ++ c := by
    unfold tb
    rw [← ByteArray.append_assoc, ← ByteArray.append_assoc]
  rw [e] at h
  exact h
theorem tb_size (s : ByteArray) : (tb s).size = (enc s.size).length + s.size := by
  unfold tb
  rw [ByteArray.size_append, eb_size]
theorem tc_tb (b c s : ByteArray) (hs : s.size ≤ 1000000) (most : Int) (hm : (s.size : Int) ≤ most) : tc (b ++ tb s ++ c) (b.size : Int) most = ((s.size : Int), ((b.size + (enc s.size).length : Nat) : Int), 0) := by
  unfold tc
  rw [tu_tb b c s hs]
  simp only [if_true]
  rw [if_neg (by omega), if_neg (by rw [ByteArray.size_append, ByteArray.size_append, tb_size]; omega)]
theorem tt_tb (b c s : ByteArray) (hs : s.size ≤ 1000000) (most : Int) (hm : (s.size : Int) ≤ most) : tt (b ++ tb s ++ c) (b.size : Int) most = (s, ((b.size + (tb s).size : Nat) : Int), 0) := by
  unfold tt
  rw [tc_tb b c s hs most hm]
  simp only [if_true]
  have e1 : ((b.size + (enc s.size).length : Nat) : Int) + (s.size : Int) = ((b.size + (tb s).size : Nat) : Int) := by rw [tb_size]; omega
  rw [e1]
  refine Prod.ext (nb_inj ?_) rfl
  rw [nb_extract, Int.toNat_natCast, Int.toNat_natCast, nb_append, nb_append]
  unfold tb
  rw [nb_append, nb_eb, ByteArray.size_append, eb_size]
  have e2 : (nb b ++ (enc s.size ++ nb s) ++ nb c).drop (b.size + (enc s.size).length) = nb s ++ nb c := by
    have e3 : nb b ++ (enc s.size ++ nb s) ++ nb c = (nb b ++ enc s.size) ++ (nb s ++ nb c) := by simp only [List.append_assoc]
    have e4 : (nb b ++ enc s.size).length = b.size + (enc s.size).length := by rw [List.length_append, nb_length]
    rw [e3, ← e4, List.drop_left]
  rw [e2, show b.size + ((enc s.size).length + s.size) - (b.size + (enc s.size).length) = (nb s).length by rw [nb_length]; omega, List.take_left]

theorem bool_read (b c : ByteArray) (x : Bool) (hsz : b.size + c.size ≤ 1000000) : ∃ t, wire_Bool.f x = some t ∧ t.size = 1 ∧ Ev (fun k => wire_TakeBool.f k (b ++ t ++ c) (b.size : Int)) (x, ((b.size + 1 : Nat) : Int), 0) := by
  have key : ∀ n : Nat, n ≤ 1 → Ev (fun k => wire_TakeBool.f k (b ++ strOfNums [(n : Int)] ++ c) (b.size : Int)) (((n : Int) == 1), ((b.size + 1 : Nat) : Int), 0) := by
    intro n hn
    have hone : (strOfNums [(n : Int)]).size = 1 := strOfNums_size _
    have hsz2 : (b ++ strOfNums [(n : Int)] ++ c).size = b.size + 1 + c.size := by rw [ByteArray.size_append, ByteArray.size_append, hone]
    have hbt : bt (b ++ strOfNums [(n : Int)] ++ c) (b.size : Int) = (n : Int) := by
      obtain ⟨v, _, h1, h2⟩ := nb_at (b ++ strOfNums [(n : Int)] ++ c) b.size (by omega)
      rw [h1]
      rw [nb_append, nb_append, List.append_assoc, ← nb_length b, List.drop_left] at h2
      have hn1 : nb (strOfNums [(n : Int)]) = [n] := nb_nums [n] (fun c hc => by simp at hc; omega)
      rw [hn1] at h2
      simp only [List.cons_append, List.nil_append, List.cons.injEq] at h2
      rw [h2.1]
    unfold wire_TakeBool.f
    simp only [if_neg (show ¬ ((b.size : Int) < 0) by omega)]
    rw [hsz2, decide_eq_false (show ¬ ((b.size : Int) > ((b.size + 1 + c.size : Nat) : Int)) by omega)]
    refine Ev.in1 (fun k => ?_)
    simp only [wire_TakeBool.j0]
    rw [if_neg (by simp), hsz2, if_neg (by omega), if_pos (by omega), if_pos (by omega), hbt, if_neg (by omega), wr _ (by omega) (by omega)]
    rfl
  cases x
  · exact ⟨strOfNums [((0 : Nat) : Int)], rfl, strOfNums_size _, key 0 (by omega)⟩
  · exact ⟨strOfNums [((1 : Nat) : Int)], rfl, strOfNums_size _, key 1 (by omega)⟩

theorem WireRoundTrips (n i : Int) (x : Bool) (s b c : ByteArray) (wn : (Lit.int .u64 n).wf = true) (wi : (Lit.int .i64 i).wf = true) : ∃ k, skirmishlaw04_WireRoundTrips.f k n i x s b c = some true := by
  have hn := bounds_u64 wn
  have hi := bounds_i64 wi
  refine Ev.rounds (g := fun k => skirmishlaw04_WireRoundTrips.f k n i x s b c) ?_
  have bad : Ev (fun k => skirmishlaw04_WireRoundTrips.j0 k b c true n i x s) true := by
    refine Ev.step1 awake_ev (fun k hk => ?_)
    simp only [skirmishlaw04_WireRoundTrips.j0]
    rw [if_pos trivial, hk]
    rfl
  unfold skirmishlaw04_WireRoundTrips.f
  by_cases h1 : (s.size : Int) > 2000
  · simp only [if_pos h1]
    exact bad
  · by_cases h2 : (b.size : Int) > 2000
    · simp only [if_neg h1, if_pos h2]
      exact bad
    · by_cases h3 : (c.size : Int) > 2000
      · simp only [if_neg h1, if_neg h2]
        rw [decide_eq_true h3]
        exact bad
      · simp only [if_neg h1, if_neg h2]
        rw [decide_eq_false h3]
        obtain ⟨m, rfl⟩ := Int.eq_ofNat_of_zero_le hn.1
        have hm : m < 18446744073709551616 := by omega
        have hz := zz_lt hi.1 hi.2
        have lm := enc_len10 hm
        have lz := enc_len10 hz
        have ls := enc_len10 (n := s.size) (by omega)
        have sm := eb_size m
        have sz := eb_size (zz i)
        have st := tb_size s
        obtain ⟨t, hbool, ht1, hread⟩ := bool_read b c x (by omega)
        have r1 := wire_tu (b ++ eb m ++ c) (by rw [ByteArray.size_append, ByteArray.size_append]; omega) (b.size : Int)
        rw [tu_eb b c m hm] at r1
        have r2 := wire_ti (b ++ eb (zz i) ++ c) (by rw [ByteArray.size_append, ByteArray.size_append]; omega) (b.size : Int)
        rw [ti_eb b c i hi.1 hi.2] at r2
        have r3 := wire_tt (b ++ tb s ++ c) (by rw [ByteArray.size_append, ByteArray.size_append]; omega) (b.size : Int) (s.size : Int) (by omega)
        rw [tt_tb b c s (by omega) _ (Int.le_refl _)] at r3
        have r4 := wire_tc (b ++ tb s ++ c) (by rw [ByteArray.size_append, ByteArray.size_append]; omega) (b.size : Int) 2000 (by omega)
        rw [tc_tb b c s (by omega) 2000 (by omega)] at r4
        have go : Ev (fun k => (wire_Uint.f k (m : Int)).bind fun t211 => ((wire_Int.f k i).bind fun t212 => ((wire_Bool.f x).bind fun t213 => ((wire_Text.f k s).bind fun t214 => (if b.size + t211.size ≤ 9223372036854775807 then (if (b ++ t211).size + c.size ≤ 9223372036854775807 then ((wire_TakeUint.f k ((b ++ t211) ++ c) (b.size : Int)).bind fun bt215 => (if b.size + t212.size ≤ 9223372036854775807 then (if (b ++ t212).size + c.size ≤ 9223372036854775807 then ((wire_TakeInt.f k ((b ++ t212) ++ c) (b.size : Int)).bind fun bt218 => (if b.size + t213.size ≤ 9223372036854775807 then (if (b ++ t213).size + c.size ≤ 9223372036854775807 then ((wire_TakeBool.f k ((b ++ t213) ++ c) (b.size : Int)).bind fun bt221 => (if b.size + t214.size ≤ 9223372036854775807 then (if (b ++ t214).size + c.size ≤ 9223372036854775807 then ((wire_TakeText.f k ((b ++ t214) ++ c) (b.size : Int) (s.size : Int)).bind fun bt224 => ((wire_TakeCount.f k ((b ++ t214) ++ c) (b.size : Int) 2000).bind fun bt227 => (if bt215.2.2 = 0 then (if bt218.2.2 = 0 then (if bt221.2.2 = 0 then (if bt224.2.2 = 0 then (if bt227.2.2 = 0 then (if bt215.1 = (m : Int) then (if bt215.2.1 = (wrap64 ((b.size : Int) + (t211.size : Int))) then (if bt218.1 = i then (if bt218.2.1 = (wrap64 ((b.size : Int) + (t212.size : Int))) then (if (bt221.1 == x) = true then (if bt221.2.1 = (wrap64 ((b.size : Int) + (t213.size : Int))) then (if bt224.1.toList = s.toList then (if bt224.2.1 = (wrap64 ((b.size : Int) + (t214.size : Int))) then (if bt227.1 = (s.size : Int) then (if bt227.2.1 = (wrap64 (bt224.2.1 - (s.size : Int))) then ((skirmishlaw04_awake.f k).bind fun t230 => (some t230)) else (some false)) else (some false)) else (some false)) else (some false)) else (some false)) else (some false)) else (some false)) else (some false)) else (some false)) else (some false)) else (some false)) else (some false)) else (some false)) else (some false)) else (some false)))) else (none)) else (none))) else (none)) else (none))) else (none)) else (none))) else (none)) else (none)))))) true := by
          refine Ev.bind (wire_uint hm) (Ev.bind (wire_int hi.1 hi.2) ?_)
          rw [hbool]
          simp only [Option.bind_some]
          refine Ev.bind (wire_text s (by omega)) ?_
          have p1 : b.size + (eb m).size ≤ 9223372036854775807 := by omega
          have p2 : (b ++ eb m).size + c.size ≤ 9223372036854775807 := by rw [ByteArray.size_append]; omega
          have p3 : b.size + (eb (zz i)).size ≤ 9223372036854775807 := by omega
          have p4 : (b ++ eb (zz i)).size + c.size ≤ 9223372036854775807 := by rw [ByteArray.size_append]; omega
          have p5 : b.size + t.size ≤ 9223372036854775807 := by omega
          have p6 : (b ++ t).size + c.size ≤ 9223372036854775807 := by rw [ByteArray.size_append]; omega
          have p7 : b.size + (tb s).size ≤ 9223372036854775807 := by omega
          have p8 : (b ++ tb s).size + c.size ≤ 9223372036854775807 := by rw [ByteArray.size_append]; omega
          simp only [if_pos p1, if_pos p2, if_pos p3, if_pos p4, if_pos p5, if_pos p6, if_pos p7, if_pos p8]
          refine Ev.bind r1 ?_
          refine Ev.bind r2 ?_
          refine Ev.bind hread ?_
          refine Ev.bind r3 (Ev.bind r4 ?_)
          have o1 : b.size + (eb m).size ≤ 1000000 := by omega
          have o2 : b.size + (eb (zz i)).size ≤ 1000000 := by omega
          have o3 : b.size + t.size ≤ 1000000 := by omega
          have o4 : b.size + (tb s).size ≤ 1000000 := by omega
          have e1 : ((b.size + (enc m).length : Nat) : Int) = wrap64 ((b.size : Int) + ((eb m).size : Int)) := by rw [sum_wrap _ _ o1, sm]
          have e2 : ((b.size + (enc (zz i)).length : Nat) : Int) = wrap64 ((b.size : Int) + ((eb (zz i)).size : Int)) := by rw [sum_wrap _ _ o2, sz]
          have e3 : ((b.size + 1 : Nat) : Int) = wrap64 ((b.size : Int) + (t.size : Int)) := by rw [sum_wrap _ _ o3, ht1]
          have e4 : ((b.size + (tb s).size : Nat) : Int) = wrap64 ((b.size : Int) + ((tb s).size : Int)) := (sum_wrap _ _ o4).symm
          have e5 : ((b.size + (enc s.size).length : Nat) : Int) = wrap64 (((b.size + (tb s).size : Nat) : Int) - (s.size : Int)) := by rw [st, diff_wrap _ _ _ (by rw [← st]; exact o4)]
          simp only [if_true, if_pos e1, if_pos e2, if_pos e3, if_pos e4, if_pos e5, beq_self_eq_true]
          exact Ev.bind awake_ev (Ev.now true)
        refine Ev.step1 go (fun k hk => ?_)
        simp only [skirmishlaw04_WireRoundTrips.j0]
        rw [if_neg (by simp)]
        exact hk

end Go.Proofs.Ytdjndjgafdfkaaa.Pure
