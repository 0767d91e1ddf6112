/- A list of valid orders is restored from its encoding inside of a text: for all lists. -/
import Derived.Test.YtbclljolofbfdaaOrdersDec
import Derived.Test.YtbclljolofbfdaaFxRT
namespace Go.Proofs.Ytbclljolofbfdaa.Pure
set_option linter.unusedVariables false
open Go.RowKit Go.Proofs.Ytbclljolofbfdaa.F Go.Proofs.Ytbclljolofbfdaa.Opens Go.Proofs.YtbclljolofbfdaaW.PrintWords Go.Proofs.YtbclljolofbfdaaW.PrintLast Go.Proofs.YtbclljolofbfdaaW.PrintMore Go.Proofs.Ytbclljolofbfdaa.Plain

theorem ti_eb (b c : ByteArray) (n : Int) (h : okI n) : ti (b ++ eb (zz n) ++ c) (b.size : Int) = (n, ((b ++ eb (zz n)).size : Int), 0) := by
  unfold ti
  rw [tu_eb b c _ (zz_lt h.1 h.2)]
  simp only [if_true]
  rw [Int.toNat_natCast, unzz_zz, ByteArray.size_append, eb_size]
theorem tu_tb (b c s : ByteArray) (hs : s.size ≤ 1000000) : tu (b ++ tb s ++ c) (b.size : Int) = ((s.size : Int), ((b.size + (enc s.size).length : Nat) : Int), 0) := by
  have h := tu_eb b (s ++ c) s.size (by omega)
  have e : b ++ eb s.size ++ (s ++ c) = b ++ tb s ++ c := by
    unfold tb
    rw [← ByteArray.append_assoc, ← ByteArray.append_assoc]
  rw [e] at h
  exact h
theorem tb_size (s : ByteArray) : (tb s).size = (enc s.size).length + s.size := by
  unfold tb
  rw [ByteArray.size_append, eb_size]
theorem tc_tb (b c s : ByteArray) (hs : s.size ≤ 1000000) (most : Int) (hm : (s.size : Int) ≤ most) : tc (b ++ tb s ++ c) (b.size : Int) most = ((s.size : Int), ((b.size + (enc s.size).length : Nat) : Int), 0) := by
  unfold tc
  rw [tu_tb b c s hs]
  simp only [if_true]
  rw [if_neg (by omega), if_neg (by rw [ByteArray.size_append, ByteArray.size_append, tb_size]; omega)]
theorem tt_tb (b c s : ByteArray) (hs : s.size ≤ 1000000) (most : Int) (hm : (s.size : Int) ≤ most) : tt (b ++ tb s ++ c) (b.size : Int) most = (s, ((b.size + (tb s).size : Nat) : Int), 0) := by
  unfold tt
  rw [tc_tb b c s hs most hm]
  simp only [if_true]
  have e1 : ((b.size + (enc s.size).length : Nat) : Int) + (s.size : Int) = ((b.size + (tb s).size : Nat) : Int) := by rw [tb_size]; omega
  rw [e1]
  refine Prod.ext (nb_inj ?_) rfl
  rw [nb_extract, Int.toNat_natCast, Int.toNat_natCast, nb_append, nb_append]
  unfold tb
  rw [nb_append, nb_eb, ByteArray.size_append, eb_size]
  have e2 : (nb b ++ (enc s.size ++ nb s) ++ nb c).drop (b.size + (enc s.size).length) = nb s ++ nb c := by
    have e3 : nb b ++ (enc s.size ++ nb s) ++ nb c = (nb b ++ enc s.size) ++ (nb s ++ nb c) := by simp only [List.append_assoc]
    have e4 : (nb b ++ enc s.size).length = b.size + (enc s.size).length := by rw [List.length_append, nb_length]
    rw [e3, ← e4, List.drop_left]
  rw [e2, show b.size + ((enc s.size).length + s.size) - (b.size + (enc s.size).length) = (nb s).length by rw [nb_length]; omega, List.take_left]

/-- An order's encoding is read, whatever stands around it. -/
theorem s0_ob (b c : ByteArray) (o : S28) (h : okO o 12) : s0 (b ++ ob o ++ c) (b.size : Int) = (o.f0, o.f1.f0, o.f1.f1, o.f2, o.f3, ((b ++ ob o).size : Int), 0) := by
  obtain ⟨h0, h1, h2, h3, h4⟩ := h
  have e0 : b ++ ob o ++ c = b ++ eb (zz o.f0) ++ (((eb (zz o.f1.f0) ++ eb (zz o.f1.f1)) ++ eb (zz o.f2)) ++ tb o.f3 ++ c) := by unfold ob; simp only [ByteArray.append_assoc]
  have e1 : b ++ ob o ++ c = (b ++ eb (zz o.f0)) ++ eb (zz o.f1.f0) ++ ((eb (zz o.f1.f1) ++ eb (zz o.f2)) ++ tb o.f3 ++ c) := by unfold ob; simp only [ByteArray.append_assoc]
  have e2 : b ++ ob o ++ c = ((b ++ eb (zz o.f0)) ++ eb (zz o.f1.f0)) ++ eb (zz o.f1.f1) ++ (eb (zz o.f2) ++ tb o.f3 ++ c) := by unfold ob; simp only [ByteArray.append_assoc]
  have e3 : b ++ ob o ++ c = (((b ++ eb (zz o.f0)) ++ eb (zz o.f1.f0)) ++ eb (zz o.f1.f1)) ++ eb (zz o.f2) ++ (tb o.f3 ++ c) := by unfold ob; simp only [ByteArray.append_assoc]
  have e4 : b ++ ob o ++ c = ((((b ++ eb (zz o.f0)) ++ eb (zz o.f1.f0)) ++ eb (zz o.f1.f1)) ++ eb (zz o.f2)) ++ tb o.f3 ++ c := by unfold ob; simp only [ByteArray.append_assoc]
  have t0 := ti_eb b (((eb (zz o.f1.f0) ++ eb (zz o.f1.f1)) ++ eb (zz o.f2)) ++ tb o.f3 ++ c) o.f0 h0
  have t1 := ti_eb (b ++ eb (zz o.f0)) ((eb (zz o.f1.f1) ++ eb (zz o.f2)) ++ tb o.f3 ++ c) o.f1.f0 h1
  have t2 := ti_eb ((b ++ eb (zz o.f0)) ++ eb (zz o.f1.f0)) (eb (zz o.f2) ++ tb o.f3 ++ c) o.f1.f1 h2
  have t3 := ti_eb (((b ++ eb (zz o.f0)) ++ eb (zz o.f1.f0)) ++ eb (zz o.f1.f1)) (tb o.f3 ++ c) o.f2 h3
  have t4 := tt_tb ((((b ++ eb (zz o.f0)) ++ eb (zz o.f1.f0)) ++ eb (zz o.f1.f1)) ++ eb (zz o.f2)) c o.f3 (by omega) 12 (by omega)
  rw [← e0] at t0
  rw [← e1] at t1
  rw [← e2] at t2
  rw [← e3] at t3
  rw [← e4] at t4
  have e5 : (((((b ++ eb (zz o.f0)) ++ eb (zz o.f1.f0)) ++ eb (zz o.f1.f1)) ++ eb (zz o.f2)).size + (tb o.f3).size : Nat) = (b ++ ob o).size := by
    rw [← ByteArray.size_append, ob_app]
  rw [e5] at t4
  generalize b ++ ob o ++ c = S at *
  unfold s0 s1 s2 s3 fin
  rw [t0]
  simp only [if_true]
  rw [t1]
  simp only [if_true]
  rw [t2]
  simp only [if_true]
  rw [t3]
  simp only [if_true]
  rw [t4]
  simp only [if_true]
theorem av_append : ∀ (l r : List S28), av (l ++ r) = (av l && av r)
  | [], _ => rfl
  | o :: l, r => by
    show (vo o && av (l ++ r)) = _
    rw [av_append l r, ← Bool.and_assoc]
    rfl
theorem dls_ecs (c : ByteArray) : ∀ (R acc : List S28) (b : ByteArray), (∀ o ∈ R, okO o 12) → av (acc ++ R) = true → dls (b ++ ecs R ++ c) R.length (b.size : Int) acc = (acc ++ R, ((b ++ ecs R).size : Int), 0) := by
  intro R
  induction R with
  | nil =>
    intro acc b _ hv
    have e : b ++ ecs [] = b := nb_inj (by simp [ecs, nb])
    rw [List.append_nil] at hv ⊢
    show (if av acc = true then (acc, (b.size : Int), 0) else ([], 0, 16)) = _
    rw [if_pos hv, e]
  | cons o R ih =>
    intro acc b hg hv
    have e1 : b ++ ecs (o :: R) ++ c = b ++ ob o ++ (ecs R ++ c) := by
      show b ++ (ob o ++ ecs R) ++ c = _
      simp only [ByteArray.append_assoc]
    have e2 : b ++ ob o ++ (ecs R ++ c) = (b ++ ob o) ++ ecs R ++ c := by simp only [ByteArray.append_assoc]
    have e3 : acc ++ o :: R = (acc ++ [o]) ++ R := by rw [List.append_assoc]; rfl
    have e4 : b ++ ecs (o :: R) = (b ++ ob o) ++ ecs R := by
      show b ++ (ob o ++ ecs R) = _
      rw [ByteArray.append_assoc]
    have h0 := s0_ob b (ecs R ++ c) o (hg o (List.mem_cons_self ..))
    have h1 := ih (acc ++ [o]) (b ++ ob o) (fun p hp => hg p (List.mem_cons_of_mem _ hp)) (by rw [← e3]; exact hv)
    rw [← e2] at h1
    rw [e1, e4, e3, List.length_cons]
    unfold dls
    rw [h0]
    simp only [if_true]
    exact h1
theorem ecs_size : ∀ (R : List S28), R.length ≤ (ecs R).size
  | [] => Nat.zero_le _
  | o :: R => by
    have h := ecs_size R
    have h1 : 1 ≤ (ob o).size := by
      unfold ob
      have := enc_pos (zz o.f0)
      simp only [ByteArray.size_append, eb_size]
      omega
    show R.length + 1 ≤ (ob o ++ ecs R).size
    rw [ByteArray.size_append]
    omega
theorem ecs_le : ∀ (R : List S28), (∀ o ∈ R, okO o 1000) → (ecs R).size ≤ 1050 * R.length
  | [], _ => Nat.zero_le _
  | o :: R, h => by
    have h1 := ecs_le R (fun p hp => h p (List.mem_cons_of_mem _ hp))
    have h2 := ob_size o (h o (List.mem_cons_self ..))
    show (ob o ++ ecs R).size ≤ 1050 * (R.length + 1)
    rw [ByteArray.size_append]
    omega
theorem dc_back (b c : ByteArray) (l : List S28) (hl : l.length ≤ 8) (hg : ∀ o ∈ l, okO o 12) (hv : av l = true) : dc ((b ++ (eb l.length ++ ecs l)) ++ c) (b.size : Int) = (l, ((b ++ (eb l.length ++ ecs l)).size : Int), 0) := by
  have e1 : (b ++ (eb l.length ++ ecs l)) ++ c = b ++ eb l.length ++ (ecs l ++ c) := by simp only [ByteArray.append_assoc]
  have e2 : b ++ eb l.length ++ (ecs l ++ c) = (b ++ eb l.length) ++ ecs l ++ c := by simp only [ByteArray.append_assoc]
  have e3 : b ++ (eb l.length ++ ecs l) = (b ++ eb l.length) ++ ecs l := by rw [ByteArray.append_assoc]
  have h0 := tu_eb b (ecs l ++ c) l.length (by omega)
  have hs := ecs_size l
  have h1 : tc (b ++ eb l.length ++ (ecs l ++ c)) (b.size : Int) 8 = ((l.length : Int), ((b ++ eb l.length).size : Int), 0) := by
    unfold tc
    rw [h0]
    simp only [if_true]
    rw [if_neg (by omega), if_neg (by simp only [ByteArray.size_append, eb_size]; omega), ByteArray.size_append, eb_size]
  have h2 := dls_ecs c l [] (b ++ eb l.length) hg hv
  rw [← e2, List.nil_append] at h2
  unfold dc
  rw [e1, h1, e3]
  simp only [if_true, Int.toNat_natCast]
  exact h2
/-- What is done with a list of valid orders. -/
def whole (k : Nat) (l : List S28) (b c : ByteArray) : Option Bool := ((orders_Encode.f k l).bind fun t249 => (if b.size + t249.size ≤ 9223372036854775807 then (if (b ++ t249).size + c.size ≤ 9223372036854775807 then ((orders_Decode.f k ((b ++ t249) ++ c) (b.size : Int)).bind fun bt250 => (if bt250.2.2 = 0 then (if bt250.2.1 = (wrap64 ((b.size : Int) + (t249.size : Int))) then ((skirmishref20_Same.f k l bt250.1).bind fun t255 => (if t255 = true then ((skirmishlaw20_alive.f k).bind fun t256 => (some t256)) else (some false))) else (some false)) else (some false))) else (none)) else (none)))
theorem whole_ev (l : List S28) (b c : ByteArray) (hl : l.length ≤ 8) (hb : b.size ≤ 1000) (hc : c.size ≤ 1000) (hg : ∀ o ∈ l, okO o 12) (hv : av l = true) : Ev (fun k => whole k l b c) true := by
  have hg2 : ∀ o ∈ l, okO o 1000 := fun o ho => ⟨(hg o ho).1, (hg o ho).2.1, (hg o ho).2.2.1, (hg o ho).2.2.2.1, by have := (hg o ho).2.2.2.2; omega⟩
  have hE : (eb l.length ++ ecs l).size ≤ 10000 := by
    have h1 := ecs_le l hg2
    have h2 : (enc l.length).length ≤ 10 := enc_len10 (by omega)
    rw [ByteArray.size_append, eb_size]
    omega
  unfold whole
  refine Ev.bind (enc_ev l hg2 (by omega)) ?_
  have hd := dc_back b c l hl hg hv
  generalize eb l.length ++ ecs l = E at *
  have hsz : ((b ++ E) ++ c).size ≤ 1000000 := by simp only [ByteArray.size_append]; omega
  have hde := dec_ev ((b ++ E) ++ c) hsz (b.size : Int)
  rw [hd] at hde
  have hw : wrap64 ((b.size : Int) + (E.size : Int)) = ((b ++ E).size : Int) := by
    rw [wr _ (by omega) (by omega), ByteArray.size_append]
    omega
  simp only [if_pos (show b.size + E.size ≤ 9223372036854775807 by omega), if_pos (show (b ++ E).size + c.size ≤ 9223372036854775807 by rw [ByteArray.size_append]; omega)]
  refine Ev.bind hde ?_
  simp only [if_true, hw]
  refine Ev.bind (same_ev l (by omega)) ?_
  simp only [if_true]
  exact Ev.bind alive_ev (Ev.now true)
theorem rt_l0 (l : List S28) (b c : ByteArray) (hl : l.length ≤ 8) (hfin : av l = true → Ev (fun k => whole k l b c) true) : ∀ (n j : Nat), j + n = l.length → (av (l.drop j) = true → av l = true) → Ev (fun k => skirmishlaw20_OrdersRoundTrip.l0 k l b c (l.length : Int) (j : Int)) true := by
  intro n
  induction n with
  | zero =>
    intro j hj hav
    rw [List.drop_eq_nil_of_le (by omega)] at hav
    refine Ev.step2 (hfin (hav rfl)) (fun k hk => ?_)
    have e : whole k l b c = some true := hk
    simp only [skirmishlaw20_OrdersRoundTrip.l0]
    rw [if_neg (by omega)]
    exact e
  | succ n ih =>
    intro j hj hav
    have hjl : j < l.length := by omega
    have hv := ref_valid_ev l[j].f0 l[j].f1.f0 l[j].f1.f1 l[j].f2 l[j].f3
    have hb : ∀ b, vo l[j] = b → vd l[j].f0 l[j].f1.f0 l[j].f1.f1 l[j].f2 l[j].f3 = b := fun b h => h
    rw [drop_at l j hjl] at hav
    cases hvo : vo l[j] with
    | true =>
      rw [hb _ hvo] at hv
      refine Ev.two hv (ih (j + 1) (by omega) (fun h => hav (by show (vo l[j] && av (l.drop (j + 1))) = true; rw [hvo, h]; rfl))) (fun k h1 h2 => ?_)
      have e0 : skirmishref20_Valid.f k l[j].f0 l[j].f1.f0 l[j].f1.f1 l[j].f2 l[j].f3 = some true := h1
      simp only [skirmishlaw20_OrdersRoundTrip.l0, rd28 l j hjl]
      rw [if_pos (by omega), if_pos (by omega), if_pos (by omega), e0, Option.bind_some, if_pos rfl, wr _ (by omega) (by omega)]
      exact h2
    | false =>
      rw [hb _ hvo] at hv
      refine Ev.two hv alive_ev (fun k h1 h2 => ?_)
      have e0 : skirmishref20_Valid.f k l[j].f0 l[j].f1.f0 l[j].f1.f1 l[j].f2 l[j].f3 = some false := h1
      have e1 : skirmishlaw20_alive.f k = some true := h2
      simp only [skirmishlaw20_OrdersRoundTrip.l0, rd28 l j hjl]
      rw [if_pos (by omega), if_pos (by omega), if_pos (by omega), e0, Option.bind_some, if_neg (by decide), e1]
      rfl
theorem OrdersRoundTrip (l : List S28) (hg : ∀ y ∈ l, G28 y) (hl : l.length ≤ maxLen) (b : ByteArray) (_ : b.size ≤ maxLen) (c : ByteArray) (_ : c.size ≤ maxLen) : ∃ k, skirmishlaw20_OrdersRoundTrip.f k l b c = some true := by
  refine Ev.rounds (g := fun k => skirmishlaw20_OrdersRoundTrip.f k l b c) ?_
  have hT : Ev (fun k => skirmishlaw20_OrdersRoundTrip.j0 k l b c true) true := Ev.step2 (Ev.bind alive_ev (Ev.now true)) (fun k hk => by simp only [skirmishlaw20_OrdersRoundTrip.j0, if_true]; exact hk)
  unfold skirmishlaw20_OrdersRoundTrip.f
  by_cases h0 : (l.length : Int) > 8
  · simp only [if_pos h0]
    exact hT
  · by_cases h1 : (b.size : Int) > 1000
    · simp only [if_neg h0, if_pos h1]
      exact hT
    · by_cases h2 : (c.size : Int) > 1000
      · simp only [if_neg h0, if_neg h1, decide_eq_true h2]
        exact hT
      · simp only [if_neg h0, if_neg h1, decide_eq_false h2]
        have hw := fun hv : av l = true => whole_ev l b c (by omega) (by omega) (by omega) (fun o ho => okO_of (hg o ho) (vo_name (av_mem hv o ho))) hv
        refine Ev.step2 (rt_l0 l b c (by omega) hw l.length 0 (by omega) (fun h => h)) (fun k hk => ?_)
        simp only [skirmishlaw20_OrdersRoundTrip.j0, Bool.false_eq_true, if_false]
        exact hk
end Go.Proofs.Ytbclljolofbfdaa.Pure
