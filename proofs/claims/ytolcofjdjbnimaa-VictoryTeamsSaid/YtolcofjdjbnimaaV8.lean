/- Chapter 33: orders and jobs of entities as rows that are read; lists of events, orders, entities compared with themselves. -/
import Derived.Test.YtolcofjdjbnimaaV7
namespace Go.Proofs.Ytolcofjdjbnimaa.V
open Go.RowKit Go.Proofs.YtolcofjdjbnimaaW.PrintWords Go.Proofs.YtolcofjdjbnimaaW.PrintLast Go.Proofs.YtolcofjdjbnimaaW.PrintMore
attribute [local go_sem] max2_int min2_int max_two min_two max_three min_three max_four min_four   -- for this text's walks alone
set_option linter.unusedVariables false
set_option linter.unusedSimpArgs false

structure S76 where
  f0 : Int
  f1 : Int
  f2 : ByteArray
def z76 : S76 := ⟨(0 : Int), (0 : Int), (⟨#[]⟩ : ByteArray)⟩
def k76 : Kd S76 := Kd.iso (Kd.pair (Kd.int .i64) (Kd.pair (Kd.int .i64) Kd.string)) (fun x : S76 => (x.f0, x.f1, x.f2))
theorem k76_open {w : World} {x : S76} {cs : List Value} (h : k76.K w x cs) : cs = [.int .i64 x.f0, .int .i64 x.f1, .string x.f2] := by
  obtain ⟨_, _, rfl, rfl, ⟨_, _, rfl, rfl, rfl⟩⟩ := h
  exact rfl
def rd_T76 (xs : List S76) (i : Int) : S76 := xs.getD i.toNat z76
theorem at_T76 {w : World} {A : Option Addr} {n : Nat} {xs : List S76} (h : Kd.C k76 w A n xs) (i : Int) (h0 : 0 ≤ i) (h1 : i < n) : ∃ ad, A = some ad ∧ w.cell? (ad.add (i.toNat * 3)) = some (.int .i64 (rd_T76 xs i).f0) ∧ w.cell? ⟨(ad.add (i.toNat * 3)).block, (ad.add (i.toNat * 3)).off + 1, none⟩ = some (.int .i64 (rd_T76 xs i).f1) ∧ w.cell? ⟨(ad.add (i.toNat * 3)).block, (ad.add (i.toNat * 3)).off + 2, none⟩ = some (.string (rd_T76 xs i).f2) := by
  obtain ⟨ad, c, e, _, hK, hc0⟩ := Kd.C_get h z76 i h0 h1
  have hc : ∀ j u, c[j]? = some u → w.cell? (ad.add (i.toNat * 3 + j)) = some u := hc0
  obtain rfl := k76_open hK
  exact ⟨ad, e, hc 0 _ rfl, by rw [← add_field _ _ 1 (by omega)]; exact hc 1 _ rfl, by rw [← add_field _ _ 2 (by omega)]; exact hc 2 _ rfl⟩
theorem at_W76 {w w1 : World} {P : RS} {xs : List S76} (h : Rw k76 w P xs) (hb : Below w.heap.size w w1) (i : Int) (h0 : 0 ≤ i) (h1 : i < P.n) : ∃ ad, P.a = some ad ∧ w1.cell? (ad.add (i.toNat * 3)) = some (.int .i64 (rd_T76 xs i).f0) ∧ w1.cell? ⟨(ad.add (i.toNat * 3)).block, (ad.add (i.toNat * 3)).off + 1, none⟩ = some (.int .i64 (rd_T76 xs i).f1) ∧ w1.cell? ⟨(ad.add (i.toNat * 3)).block, (ad.add (i.toNat * 3)).off + 2, none⟩ = some (.string (rd_T76 xs i).f2) := at_T76 (h.below hb).c i h0 h1

structure S80 where
  f0 : Int
  f1 : Int
  f2 : Int
  f3 : Int
  f4 : ByteArray
def z80 : S80 := ⟨(0 : Int), (0 : Int), (0 : Int), (0 : Int), (⟨#[]⟩ : ByteArray)⟩
def k80 : Kd S80 := Kd.iso (Kd.pair (Kd.int .i64) (Kd.pair (Kd.int .i64) (Kd.pair (Kd.int .i64) (Kd.pair (Kd.int .i64) Kd.string)))) (fun x : S80 => (x.f0, x.f1, x.f2, x.f3, x.f4))
theorem k80_open {w : World} {x : S80} {cs : List Value} (h : k80.K w x cs) : cs = [.int .i64 x.f0, .int .i64 x.f1, .int .i64 x.f2, .int .i64 x.f3, .string x.f4] := by
  obtain ⟨_, _, rfl, rfl, ⟨_, _, rfl, rfl, ⟨_, _, rfl, rfl, ⟨_, _, rfl, rfl, rfl⟩⟩⟩⟩ := h
  exact rfl
def rd_T80 (xs : List S80) (i : Int) : S80 := xs.getD i.toNat z80
theorem at_T80 {w : World} {A : Option Addr} {n : Nat} {xs : List S80} (h : Kd.C k80 w A n xs) (i : Int) (h0 : 0 ≤ i) (h1 : i < n) : ∃ ad, A = some ad ∧ w.cell? (ad.add (i.toNat * 5)) = some (.int .i64 (rd_T80 xs i).f0) ∧ w.cell? ⟨(ad.add (i.toNat * 5)).block, (ad.add (i.toNat * 5)).off + 1, none⟩ = some (.int .i64 (rd_T80 xs i).f1) ∧ w.cell? ⟨(ad.add (i.toNat * 5)).block, (ad.add (i.toNat * 5)).off + 2, none⟩ = some (.int .i64 (rd_T80 xs i).f2) ∧ w.cell? ⟨(ad.add (i.toNat * 5)).block, (ad.add (i.toNat * 5)).off + 3, none⟩ = some (.int .i64 (rd_T80 xs i).f3) ∧ w.cell? ⟨(ad.add (i.toNat * 5)).block, (ad.add (i.toNat * 5)).off + 4, none⟩ = some (.string (rd_T80 xs i).f4) := by
  obtain ⟨ad, c, e, _, hK, hc0⟩ := Kd.C_get h z80 i h0 h1
  have hc : ∀ j u, c[j]? = some u → w.cell? (ad.add (i.toNat * 5 + j)) = some u := hc0
  obtain rfl := k80_open hK
  exact ⟨ad, e, hc 0 _ rfl, by rw [← add_field _ _ 1 (by omega)]; exact hc 1 _ rfl, by rw [← add_field _ _ 2 (by omega)]; exact hc 2 _ rfl, by rw [← add_field _ _ 3 (by omega)]; exact hc 3 _ rfl, by rw [← add_field _ _ 4 (by omega)]; exact hc 4 _ rfl⟩
theorem at_W80 {w w1 : World} {P : RS} {xs : List S80} (h : Rw k80 w P xs) (hb : Below w.heap.size w w1) (i : Int) (h0 : 0 ≤ i) (h1 : i < P.n) : ∃ ad, P.a = some ad ∧ w1.cell? (ad.add (i.toNat * 5)) = some (.int .i64 (rd_T80 xs i).f0) ∧ w1.cell? ⟨(ad.add (i.toNat * 5)).block, (ad.add (i.toNat * 5)).off + 1, none⟩ = some (.int .i64 (rd_T80 xs i).f1) ∧ w1.cell? ⟨(ad.add (i.toNat * 5)).block, (ad.add (i.toNat * 5)).off + 2, none⟩ = some (.int .i64 (rd_T80 xs i).f2) ∧ w1.cell? ⟨(ad.add (i.toNat * 5)).block, (ad.add (i.toNat * 5)).off + 3, none⟩ = some (.int .i64 (rd_T80 xs i).f3) ∧ w1.cell? ⟨(ad.add (i.toNat * 5)).block, (ad.add (i.toNat * 5)).off + 4, none⟩ = some (.string (rd_T80 xs i).f4) := at_T80 (h.below hb).c i h0 h1

theorem eqA62 (d : Nat) (w : World) (x0 : Int) (x1 : Int) (x2 : Int) (x3 : ByteArray) :
    (Op.equalIn (d + 2) 62 (.agg #[.int .i64 x0, .int .i64 x1, .int .i64 x2, .string x3]) (.agg #[.int .i64 x0, .int .i64 x1, .int .i64 x2, .string x3])).run Try.prog w = .ok true w := by
  refine Eq.trans (b := .ok (x0 == x0 && (x1 == x1 && (x2 == x2 && (x3.toList == x3.toList)))) w) (eqA_of Try.underlying62 (by kernel_rfl) ?_) (by simp)
  refine eqf_cons (by rfl) (by go_simp; rfl) (by go_simp; rfl) (by go_simp) ?_
  refine eqf_cons (by rfl) (by go_simp; rfl) (by go_simp; rfl) (by go_simp) ?_
  refine eqf_cons (by rfl) (by go_simp; rfl) (by go_simp; rfl) (by go_simp) ?_
  exact eqf_last (by rfl) (by go_simp; rfl) (by go_simp; rfl) (by go_simp)

theorem eqA76 (d : Nat) (w : World) (x0 : Int) (x1 : Int) (x2 : ByteArray) :
    (Op.equalIn (d + 2) 76 (.agg #[.int .i64 x0, .int .i64 x1, .string x2]) (.agg #[.int .i64 x0, .int .i64 x1, .string x2])).run Try.prog w = .ok true w := by
  refine Eq.trans (b := .ok (x0 == x0 && (x1 == x1 && (x2.toList == x2.toList))) w) (eqA_of Try.underlying76 (by kernel_rfl) ?_) (by simp)
  refine eqf_cons (by rfl) (by go_simp; rfl) (by go_simp; rfl) (by go_simp) ?_
  refine eqf_cons (by rfl) (by go_simp; rfl) (by go_simp; rfl) (by go_simp) ?_
  exact eqf_last (by rfl) (by go_simp; rfl) (by go_simp; rfl) (by go_simp)

theorem eqA65 (d : Nat) (w : World) (x0 : Int) (x1 : Int) :
    (Op.equalIn (d + 2) 65 (.agg #[.int .i64 x0, .int .i64 x1]) (.agg #[.int .i64 x0, .int .i64 x1])).run Try.prog w = .ok true w := by
  refine Eq.trans (b := .ok (x0 == x0 && (x1 == x1)) w) (eqA_of Try.underlying65 (by kernel_rfl) ?_) (by simp)
  refine eqf_cons (by rfl) (by go_simp; rfl) (by go_simp; rfl) (by go_simp) ?_
  exact eqf_last (by rfl) (by go_simp; rfl) (by go_simp; rfl) (by go_simp)

theorem eqA80 (d : Nat) (w : World) (x0 : Int) (x1 : Int) (x2 : Int) (x3 : Int) (x4 : ByteArray) :
    (Op.equalIn (d + 3) 80 (.agg #[.int .i64 x0, .int .i64 x1, .int .i64 x2, .int .i64 x3, .string x4]) (.agg #[.int .i64 x0, .int .i64 x1, .int .i64 x2, .int .i64 x3, .string x4])).run Try.prog w = .ok true w := by
  refine Eq.trans (b := .ok (x0 == x0 && (true && (x3 == x3 && (x4.toList == x4.toList)))) w) (eqA_of Try.underlying80 (by kernel_rfl) ?_) (by simp)
  refine eqf_cons (by rfl) (by go_simp; rfl) (by go_simp; rfl) (by go_simp) ?_
  refine eqf_cons (by rfl) (by go_simp) (by go_simp) (eqA65 (d + 0) w x1 x2) ?_
  refine eqf_cons (by rfl) (by go_simp; rfl) (by go_simp; rfl) (by go_simp) ?_
  exact eqf_last (by rfl) (by go_simp; rfl) (by go_simp; rfl) (by go_simp)

attribute [local go_sem high] eqA62 eqA76 eqA80 eqA65

set_option maxHeartbeats 8000000 in
set_option maxRecDepth 100000 in
theorem sameEvents_calls (P P' : RS) (xs : List S62) (w : World) (hR : Rw k62 w P xs) (hR' : Rw k62 w P' xs) (hn : xs.length ≤ maxLen) : Calls Try.prog 16 #[.slice P.a P.n P.c, .slice P'.a P'.n P'.c] w fun e w' => e = .returned (.bool true) ∧ Below w.heap.size w w' := by
  have hu62 := Try.underlying62
  obtain ⟨pa, pn, pc⟩ := P
  obtain ⟨qa, qn, qc⟩ := P'
  have hq : qn = pn := hR'.len.trans hR.len.symm
  subst hq
  have HR := Aside0.mk hR
  have HR' := Aside0.mk hR'
  have HN : Aside0 (qn ≤ 9223372036854775807) := ⟨by have l_ : qn = xs.length := hR.len; unfold maxLen at hn; omega⟩
  clear hR hR' hn
  have HB := Aside0.mk (Below.refl w.heap.size w)
  go_enter Try.func16, Try.ntmps16
  go_wp2
  repeat (go_quiet (fail); try go_wp2)
  go_loopg [5] (qn + 1) (fun kq v5 w' => ∃ (x : Int), v5 = .int .i64 x ∧ Aside0 (0 ≤ x ∧ x ≤ qn ∧ (kq : Int) + x ≥ qn + 1) ∧ Aside0 (Below w.heap.size w w'))
  case atStart => exact ⟨0, rfl, ⟨by omega⟩, ⟨(by repeat (first | (with_reducible first | exact HB.out | apply below_alloc | apply pw_below_drewN | apply below_drew1) | exact HB.out))⟩⟩
  case round =>
    clear HB
    obtain ⟨x, rfl, HI, HB⟩ := hrel
    have hi := HI.out
    have hnn := HN.out
    cases gk with
    | zero => exfalso; omega
    | succ k1 =>
    by_cases c4 : x < (qn : Int)
    · have c4b := decide_eq_true c4
      have p0 : 0 ≤ x := hi.1
      have p0b := decide_eq_true p0
      have hw : wrap64 (x + 1) = x + 1 := wrap64_of (by omega) (by omega)
      obtain ⟨ad, he, h0, h1, h2, h3⟩ := at_V HR.out HB.out x p0 c4
      obtain ⟨ad', he', g0, g1, g2, g3⟩ := at_V HR'.out HB.out x p0 c4
      dsimp only at he he'
      subst he
      subst he'
      replace p0 := eq_true p0
      have c4k := Aside0.mk c4
      replace c4 := eq_true c4
      clear hi hnn
      go_wp2
      repeat (go_quiet (fail); try go_wp2)
      go_roundg k1
      case measure => omega
      case rel => exact ⟨x + 1, by first | rfl | (simp [*]; done), ⟨by have i_ := HI.out; have c_ := c4k.out; refine ⟨by omega, by omega, by omega⟩⟩, ⟨(by repeat (first | (with_reducible first | exact HB.out | apply below_alloc | apply pw_below_drewN | apply below_drew1) | exact HB.out))⟩⟩
    · have c4b := decide_eq_false c4
      clear c4 hi hnn
      go_wp2
      repeat (go_quiet (fail); try go_wp2)
      go_ret
      exact ⟨rfl, (by repeat (first | (with_reducible first | exact HB.out | apply below_alloc | apply pw_below_drewN | apply below_drew1) | exact HB.out))⟩

set_option maxHeartbeats 8000000 in
set_option maxRecDepth 100000 in
theorem sameOrders_calls (P P' : RS) (xs : List S80) (w : World) (hR : Rw k80 w P xs) (hR' : Rw k80 w P' xs) (hn : xs.length ≤ maxLen) : Calls Try.prog 35 #[.slice P.a P.n P.c, .slice P'.a P'.n P'.c] w fun e w' => e = .returned (.bool true) ∧ Below w.heap.size w w' := by
  have hu80 := Try.underlying80
  obtain ⟨pa, pn, pc⟩ := P
  obtain ⟨qa, qn, qc⟩ := P'
  have hq : qn = pn := hR'.len.trans hR.len.symm
  subst hq
  have HR := Aside0.mk hR
  have HR' := Aside0.mk hR'
  have HN : Aside0 (qn ≤ 9223372036854775807) := ⟨by have l_ : qn = xs.length := hR.len; unfold maxLen at hn; omega⟩
  clear hR hR' hn
  have HB := Aside0.mk (Below.refl w.heap.size w)
  go_enter Try.func35, Try.ntmps35
  go_wp2
  repeat (go_quiet (fail); try go_wp2)
  go_loopg [5] (qn + 1) (fun kq v5 w' => ∃ (x : Int), v5 = .int .i64 x ∧ Aside0 (0 ≤ x ∧ x ≤ qn ∧ (kq : Int) + x ≥ qn + 1) ∧ Aside0 (Below w.heap.size w w'))
  case atStart => exact ⟨0, rfl, ⟨by omega⟩, ⟨(by repeat (first | (with_reducible first | exact HB.out | apply below_alloc | apply pw_below_drewN | apply below_drew1) | exact HB.out))⟩⟩
  case round =>
    clear HB
    obtain ⟨x, rfl, HI, HB⟩ := hrel
    have hi := HI.out
    have hnn := HN.out
    cases gk with
    | zero => exfalso; omega
    | succ k1 =>
    by_cases c4 : x < (qn : Int)
    · have c4b := decide_eq_true c4
      have p0 : 0 ≤ x := hi.1
      have p0b := decide_eq_true p0
      have hw : wrap64 (x + 1) = x + 1 := wrap64_of (by omega) (by omega)
      obtain ⟨ad, he, h0, h1, h2, h3, h4⟩ := at_W80 HR.out HB.out x p0 c4
      obtain ⟨ad', he', g0, g1, g2, g3, g4⟩ := at_W80 HR'.out HB.out x p0 c4
      dsimp only at he he'
      subst he
      subst he'
      replace p0 := eq_true p0
      have c4k := Aside0.mk c4
      replace c4 := eq_true c4
      clear hi hnn
      go_wp2
      repeat (go_quiet (fail); try go_wp2)
      go_roundg k1
      case measure => omega
      case rel => exact ⟨x + 1, by first | rfl | (simp [*]; done), ⟨by have i_ := HI.out; have c_ := c4k.out; refine ⟨by omega, by omega, by omega⟩⟩, ⟨(by repeat (first | (with_reducible first | exact HB.out | apply below_alloc | apply pw_below_drewN | apply below_drew1) | exact HB.out))⟩⟩
    · have c4b := decide_eq_false c4
      clear c4 hi hnn
      go_wp2
      repeat (go_quiet (fail); try go_wp2)
      go_ret
      exact ⟨rfl, (by repeat (first | (with_reducible first | exact HB.out | apply below_alloc | apply pw_below_drewN | apply below_drew1) | exact HB.out))⟩

end Go.Proofs.Ytolcofjdjbnimaa.V
