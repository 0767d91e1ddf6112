/- What Encode of orders and of its reference comes to. -/
import Derived.Test.YtbclljolofbfdaaOrdersLib
import Derived.Test.YtbclljolofbfdaaFx14
namespace Go.Proofs.Ytbclljolofbfdaa.Pure
set_option linter.unusedVariables false
open Go.RowKit Go.Proofs.Ytbclljolofbfdaa.F Go.Proofs.Ytbclljolofbfdaa.Opens Go.Proofs.YtbclljolofbfdaaW.PrintWords Go.Proofs.YtbclljolofbfdaaW.PrintLast Go.Proofs.YtbclljolofbfdaaW.PrintMore Go.Proofs.Ytbclljolofbfdaa.Plain

def okI (n : Int) : Prop := -9223372036854775808 ≤ n ∧ n ≤ 9223372036854775807
/-- An order of ints and of a name of at most m bytes. -/
def okO (o : S28) (m : Nat) : Prop := okI o.f0 ∧ okI o.f1.f0 ∧ okI o.f1.f1 ∧ okI o.f2 ∧ o.f3.size ≤ m
theorem okO_of {o : S28} {m : Nat} (h : G28 o) (hs : o.f3.size ≤ m) : okO o m :=
  ⟨bounds_i64 h.1, bounds_i64 h.2.1.1, bounds_i64 h.2.1.2, bounds_i64 h.2.2.1, hs⟩
/-- An order's encoding. -/
def ob (o : S28) : ByteArray := (((eb (zz o.f0) ++ eb (zz o.f1.f0)) ++ eb (zz o.f1.f1)) ++ eb (zz o.f2)) ++ tb o.f3
def ecs : List S28 → ByteArray
  | [] => ⟨#[]⟩
  | o :: r => ob o ++ ecs r
theorem ob_app (x : ByteArray) (o : S28) : ((((x ++ eb (zz o.f0)) ++ eb (zz o.f1.f0)) ++ eb (zz o.f1.f1)) ++ eb (zz o.f2)) ++ tb o.f3 = x ++ ob o := by
  unfold ob
  simp only [ByteArray.append_assoc]
theorem eb_zz_size (n : Int) (h : okI n) : (eb (zz n)).size ≤ 10 := by
  rw [eb_size]
  exact enc_len10 (zz_lt h.1 h.2)
theorem tb_le (s : ByteArray) (h : s.size ≤ 1000) : (tb s).size ≤ 1010 := by
  unfold tb
  rw [ByteArray.size_append, eb_size]
  have := enc_len10 (n := s.size) (by omega)
  omega
theorem ob_size (o : S28) (h : okO o 1000) : (ob o).size ≤ 1050 := by
  have s0 := eb_zz_size _ h.1
  have s1 := eb_zz_size _ h.2.1
  have s2 := eb_zz_size _ h.2.2.1
  have s3 := eb_zz_size _ h.2.2.2.1
  have s4 := tb_le o.f3 h.2.2.2.2
  unfold ob
  simp only [ByteArray.size_append]
  omega
theorem enc_l0 (l : List S28) (hg : ∀ o ∈ l, okO o 1000) (hl : l.length ≤ 100) : ∀ (n j : Nat) (x : ByteArray), j + n = l.length → x.size ≤ 10 + 1050 * j → Ev (fun k => orders_Encode.l0 k l x (j : Int)) (x ++ ecs (l.drop j)) := by
  intro n
  induction n with
  | zero =>
    intro j x hj _
    refine Ev.in1 (fun k => ?_)
    simp only [orders_Encode.l0]
    rw [if_neg (by omega), List.drop_eq_nil_of_le (by omega)]
    exact congrArg some (nb_inj (by simp [ecs, nb])).symm
  | succ n ih =>
    intro j x hj hx
    have hjl : j < l.length := by omega
    have ho := hg l[j] (List.getElem_mem hjl)
    have hob := ob_size l[j] ho
    have hap := ob_app x l[j]
    have s0 := eb_zz_size _ ho.1
    have s1 := eb_zz_size _ ho.2.1
    have s2 := eb_zz_size _ ho.2.2.1
    have s3 := eb_zz_size _ ho.2.2.2.1
    have s4 := tb_le l[j].f3 ho.2.2.2.2
    obtain ⟨K0, h0⟩ := wire_int ho.1.1 ho.1.2
    obtain ⟨K1, h1⟩ := wire_int ho.2.1.1 ho.2.1.2
    obtain ⟨K2, h2⟩ := wire_int ho.2.2.1.1 ho.2.2.1.2
    obtain ⟨K3, h3⟩ := wire_int ho.2.2.2.1.1 ho.2.2.2.1.2
    obtain ⟨K4, h4⟩ := wire_text l[j].f3 (by have := ho.2.2.2.2; omega)
    obtain ⟨K5, h5⟩ := ih (j + 1) (x ++ ob l[j]) (by omega) (by rw [ByteArray.size_append]; omega)
    refine ⟨K0 + K1 + K2 + K3 + K4 + K5 + 1, fun k hk => ?_⟩
    obtain ⟨m, rfl⟩ : ∃ m, k = m + 1 := ⟨k - 1, by omega⟩
    have e := h5 m (by omega)
    have e0 : wire_Int.f m l[j].f0 = some _ := h0 m (by omega)
    have e1 : wire_Int.f m l[j].f1.f0 = some _ := h1 m (by omega)
    have e2 : wire_Int.f m l[j].f1.f1 = some _ := h2 m (by omega)
    have e3 : wire_Int.f m l[j].f2 = some _ := h3 m (by omega)
    have e4 : wire_Text.f m l[j].f3 = some _ := h4 m (by omega)
    simp only [orders_Encode.l0, rd28 l j hjl]
    rw [if_pos (by omega), if_pos (by omega), e0, Option.bind_some, if_pos (by omega), e1, Option.bind_some, if_pos (by simp only [ByteArray.size_append]; omega), e2, Option.bind_some, if_pos (by simp only [ByteArray.size_append]; omega), e3, Option.bind_some, if_pos (by simp only [ByteArray.size_append]; omega), e4, Option.bind_some, if_pos (by simp only [ByteArray.size_append]; omega), wr _ (by omega) (by omega), hap]
    rw [List.drop_eq_getElem_cons hjl]
    exact e.trans (congrArg some (ByteArray.append_assoc ..))
theorem renc_l0 (l : List S28) (hg : ∀ o ∈ l, okO o 1000) (hl : l.length ≤ 100) : ∀ (n j : Nat) (x : ByteArray), j + n = l.length → x.size ≤ 10 + 1050 * j → Ev (fun k => skirmishref20_Encode.l0 k l x (j : Int)) (x ++ ecs (l.drop j)) := by
  intro n
  induction n with
  | zero =>
    intro j x hj _
    refine Ev.in1 (fun k => ?_)
    simp only [skirmishref20_Encode.l0]
    rw [if_neg (by omega), List.drop_eq_nil_of_le (by omega)]
    exact congrArg some (nb_inj (by simp [ecs, nb])).symm
  | succ n ih =>
    intro j x hj hx
    have hjl : j < l.length := by omega
    have ho := hg l[j] (List.getElem_mem hjl)
    have hob := ob_size l[j] ho
    have hap := ob_app x l[j]
    have s0 := eb_zz_size _ ho.1
    have s1 := eb_zz_size _ ho.2.1
    have s2 := eb_zz_size _ ho.2.2.1
    have s3 := eb_zz_size _ ho.2.2.2.1
    have s4 := tb_le l[j].f3 ho.2.2.2.2
    obtain ⟨K0, h0⟩ := ref_int ho.1.1 ho.1.2
    obtain ⟨K1, h1⟩ := ref_int ho.2.1.1 ho.2.1.2
    obtain ⟨K2, h2⟩ := ref_int ho.2.2.1.1 ho.2.2.1.2
    obtain ⟨K3, h3⟩ := ref_int ho.2.2.2.1.1 ho.2.2.2.1.2
    obtain ⟨K4, h4⟩ := ref_text l[j].f3 (by have := ho.2.2.2.2; omega)
    obtain ⟨K5, h5⟩ := ih (j + 1) (x ++ ob l[j]) (by omega) (by rw [ByteArray.size_append]; omega)
    refine ⟨K0 + K1 + K2 + K3 + K4 + K5 + 1, fun k hk => ?_⟩
    obtain ⟨m, rfl⟩ : ∃ m, k = m + 1 := ⟨k - 1, by omega⟩
    have e := h5 m (by omega)
    have e0 : skirmishref04_Int.f m l[j].f0 = some _ := h0 m (by omega)
    have e1 : skirmishref04_Int.f m l[j].f1.f0 = some _ := h1 m (by omega)
    have e2 : skirmishref04_Int.f m l[j].f1.f1 = some _ := h2 m (by omega)
    have e3 : skirmishref04_Int.f m l[j].f2 = some _ := h3 m (by omega)
    have e4 : skirmishref04_Text.f m l[j].f3 = some _ := h4 m (by omega)
    simp only [skirmishref20_Encode.l0, rd28 l j hjl]
    rw [if_pos (by omega), if_pos (by omega), e0, Option.bind_some, if_pos (by omega), e1, Option.bind_some, if_pos (by simp only [ByteArray.size_append]; omega), e2, Option.bind_some, if_pos (by simp only [ByteArray.size_append]; omega), e3, Option.bind_some, if_pos (by simp only [ByteArray.size_append]; omega), e4, Option.bind_some, if_pos (by simp only [ByteArray.size_append]; omega), wr _ (by omega) (by omega), hap]
    rw [List.drop_eq_getElem_cons hjl]
    exact e.trans (congrArg some (ByteArray.append_assoc ..))
theorem enc_ev (l : List S28) (hg : ∀ o ∈ l, okO o 1000) (hl : l.length ≤ 100) : Ev (fun k => orders_Encode.f k l) (eb l.length ++ ecs l) := by
  have hw : IntKind.u64.wrap (l.length : Int) = (l.length : Int) := by rw [w64]; omega
  have hs : (eb l.length).size ≤ 10 := by rw [eb_size]; exact enc_len10 (by omega)
  unfold orders_Encode.f
  rw [hw]
  refine Ev.bind (wire_uint (by omega)) ?_
  simp only [if_pos (show (eb l.length).size ≤ 140737488355328 by omega)]
  exact enc_l0 l hg hl l.length 0 (eb l.length) (by omega) (by omega)
theorem renc_ev (l : List S28) (hg : ∀ o ∈ l, okO o 1000) (hl : l.length ≤ 100) : Ev (fun k => skirmishref20_Encode.f k l) (eb l.length ++ ecs l) := by
  have hw : IntKind.u64.wrap (l.length : Int) = (l.length : Int) := by rw [w64]; omega
  have hs : (eb l.length).size ≤ 10 := by rw [eb_size]; exact enc_len10 (by omega)
  unfold skirmishref20_Encode.f
  rw [hw]
  refine Ev.bind (ref_uint (by omega)) ?_
  exact renc_l0 l hg hl l.length 0 (eb l.length) (by omega) (by omega)
end Go.Proofs.Ytbclljolofbfdaa.Pure
