/- Chapter 33: the walks of the conditions on players and entities (function values), of slices' IndexFunc and ContainsFunc over them, of find and owns. -/
import Derived.Test.YtolcofjdjbnimaaV2
namespace Go.Proofs.Ytolcofjdjbnimaa.V
open Go.RowKit Go.Proofs.YtolcofjdjbnimaaW.PrintWords Go.Proofs.YtolcofjdjbnimaaW.PrintLast Go.Proofs.YtolcofjdjbnimaaW.PrintMore
attribute [local go_sem] max2_int min2_int max_two min_two max_three min_three max_four min_four   -- for this text's walks alone
set_option linter.unusedVariables false
set_option linter.unusedSimpArgs false

/-- A function value that answers a condition. -/
def Cnd {α : Type} (enc : α → Array Value) (w : World) (v : Value) (p : α → Bool) : Prop :=
  ∃ (f : FuncId) (fn : Func) (cap : Array Value), v = .func (.func f) #[] cap ∧ Try.prog.funcs[f]? = some fn ∧ (fn.name == "runtime.NumGoroutine") = false ∧ fn.body.isSome = true ∧
    ∀ (w1 : World) (x : α), Below w.heap.size w w1 → Calls Try.prog f (#[.agg (enc x)] ++ cap) w1 fun e w' => e = .returned (.bool (p x)) ∧ Below w1.heap.size w1 w'
theorem Cnd.below {α : Type} {enc : α → Array Value} {w w1 : World} {v : Value} {p : α → Bool} (h : Cnd enc w v p) (hb : Below w.heap.size w w1) : Cnd enc w1 v p := by
  obtain ⟨f, fn, cap, h1, h2, h3, h4, h5⟩ := h
  exact ⟨f, fn, cap, h1, h2, h3, h4, fun w2 x hb2 => h5 w2 x (below_step hb hb2)⟩
/-- A call of it. -/
theorem goesC_ {α : Type} {enc : α → Array Value} {p : α → Bool} {w0 : World} {v : Value} {ops : Array Oper} {Q : Exit → Act → World → Prop} {rest : List Oper} {oi : Oper} {a : Act} {w : World} (N : Option Tmp) (hd : oi.dst = N) (hg : oi.guard = none) {x : Operand} {xs : Array Operand} {ts : Array TypeId}
    (hop : oi.op = .call { callee := .value x, args := xs, argTypes := ts }) (hx : a.eval x = v) (hc : Cnd enc w0 v p) (hb : Below w0.heap.size w0 w) (y : α) (hargs : xs.map a.eval = #[.agg (enc y)])
    (h : ∀ w', Below w.heap.size w w' → wpList Try.prog ops Q rest (a.put N (.bool (p y))) w') : wpList Try.prog ops Q (oi :: rest) a w := by
  obtain ⟨f, fn, cap, rfl, hf, hname, hbody, hc⟩ := hc
  refine wpList_plain hg fun K hK => ?_
  have he := enters_ hf hname hbody (xs.map a.eval ++ cap) w
  have hrun : (execOp a.eval oi).run Try.prog w = .ok (.enter f (xs.map a.eval ++ cap)) w := by
    unfold execOp
    simp [hop, hx, resolve, Deferred.ofValue, invoke, he]
  unfold Oper.wp
  rw [hrun, Oper.upon_enter, hargs]
  refine (hc w y hb).mono fun e w'' hh => ?_
  obtain ⟨rfl, hb2⟩ := hh
  subst hd
  exact hK _ _ (h _ hb2)
/-- The index of the first element of a kind, or -1. -/
def fstS {α : Type} (p : α → Bool) (l : List α) : Int := match l.findIdx? p with | some i => i | none => -1
theorem fstS_at {α : Type} {p : α → Bool} {l : List α} {x : Int} (d : α) (h0 : 0 ≤ x) (h1 : x < l.length) (he : p (l.getD x.toNat d) = true) (hb : ∀ j : Int, 0 ≤ j → j < x → p (l.getD j.toNat d) = false) : fstS p l = x := by
  obtain ⟨i, rfl⟩ := Int.eq_ofNat_of_zero_le h0
  have hi : i < l.length := by omega
  have e1 : ∀ j (hj : j < l.length), l.getD ((j : Int).toNat) d = l[j] := fun j hj => by simp [List.getD, hj]
  have : l.findIdx? p = some i := by
    rw [List.findIdx?_eq_some_iff_getElem]
    refine ⟨hi, by rw [← e1 i hi]; exact he, fun j hj => ?_⟩
    have := hb (j : Int) (by omega) (by omega)
    rw [e1 j (by omega)] at this
    simp [this]
  simp [fstS, this]
theorem fstS_none {α : Type} {p : α → Bool} {l : List α} (d : α) (hb : ∀ j : Int, 0 ≤ j → j < l.length → p (l.getD j.toNat d) = false) : fstS p l = -1 := by
  have : l.findIdx? p = none := by
    rw [List.findIdx?_eq_none_iff]
    intro x hx
    obtain ⟨i, hi, rfl⟩ := List.getElem_of_mem hx
    have := hb (i : Int) (by omega) (by omega)
    simpa [List.getD, hi] using this
  simp [fstS, this]

set_option maxHeartbeats 8000000 in
set_option maxRecDepth 100000 in
theorem index52_calls (P : RS) (ps : List S52) (v : Value) (p : S52 → Bool) (w : World) (hR : Rw k52 w P ps) (hn : P.n ≤ 100) (hc : Cnd pl w v p) : Calls Try.prog 30 #[.slice P.a P.n P.c, v] w fun e w' => e = .returned (.int .i64 (fstS p ps)) ∧ Below w.heap.size w w' := by
  have hu52 := Try.underlying52
  obtain ⟨pa, pn, pc⟩ := P
  have HR := Aside0.mk hR
  have HN := Aside0.mk hn
  have HC := Aside0.mk hc
  clear hR hn hc
  have HB := Aside0.mk (Below.refl w.heap.size w)
  go_enter Try.func30, Try.ntmps30
  go_wp2
  go_loopg [8] 200 (fun kq v8 w' => ∃ (x : Int), v8 = .int .i64 x ∧ Aside0 (0 ≤ x ∧ x ≤ pn ∧ (kq : Int) + x ≥ 101) ∧ Aside0 (∀ j : Int, 0 ≤ j → j < x → p (ps.getD j.toNat z52) = false) ∧ Aside0 (Below w.heap.size w w'))
  case atStart => exact ⟨0, rfl, ⟨by have := HN.out; omega⟩, ⟨fun j h1 h2 => by omega⟩, ⟨(by repeat (first | (with_reducible first | exact HB.out | apply below_alloc | apply pw_below_drewN | apply below_drew1) | exact HB.out))⟩⟩
  case round =>
    clear HB
    obtain ⟨x, rfl, HI, HA, HB⟩ := hrel
    have hi := HI.out
    have hnn : pn ≤ 100 := HN.out
    cases gk with
    | zero => exfalso; omega
    | succ k1 =>
    by_cases c4 : x < (pn : Int)
    · have c4b := decide_eq_true c4
      have p0 : 0 ≤ x := hi.1
      have p0b := decide_eq_true p0
      have hw : wrap64 (x + 1) = x + 1 := wrap64_of (by omega) (by omega)
      obtain ⟨ad, he, h0, h1, h2, h3, h4, h5⟩ := at_P HR.out HB.out x p0 c4
      dsimp only at he
      subst he
      replace p0 := eq_true p0
      have c4k := Aside0.mk c4
      replace c4 := eq_true c4
      obtain ⟨q, hq⟩ : ∃ q, q = p (rd_T52 ps x) := ⟨_, rfl⟩
      have hqk := Aside0.mk hq
      clear hq
      cases q with
      | true =>
        have pb := hqk.out.symm
        clear hi hnn
        go_wp2_with (first | ((with_reducible refine gate_dst (N := 16) rfl ?_); refine goesC_ (some 16) rfl rfl rfl rfl HC.out (by repeat (first | (with_reducible first | exact HB.out | apply below_alloc | apply pw_below_drewN | apply below_drew1) | exact HB.out)) (rd_T52 ps x) (by first | rfl | (simp only [List.map_toArray, List.map_cons, List.map_nil]; rfl)) ?_; intro wc_ hb; rw [pb]; have n0_ := Aside0.mk (below_step (by repeat (first | (with_reducible first | exact HB.out | apply below_alloc | apply pw_below_drewN | apply below_drew1) | exact HB.out)) hb); clear HB; have HB := n0_; clear n0_ hb))
        go_ret
        exact ⟨by have i_ := HI.out; have c_ := c4k.out; have l_ : pn = ps.length := HR.out.len; rw [fstS_at z52 i_.1 (by omega) hqk.out.symm HA.out]; rfl, (by repeat (first | (with_reducible first | exact HB.out | apply below_alloc | apply pw_below_drewN | apply below_drew1) | exact HB.out))⟩
      | false =>
        have pb := hqk.out.symm
        clear hi hnn
        go_wp2_with (first | ((with_reducible refine gate_dst (N := 16) rfl ?_); refine goesC_ (some 16) rfl rfl rfl rfl HC.out (by repeat (first | (with_reducible first | exact HB.out | apply below_alloc | apply pw_below_drewN | apply below_drew1) | exact HB.out)) (rd_T52 ps x) (by first | rfl | (simp only [List.map_toArray, List.map_cons, List.map_nil]; rfl)) ?_; intro wc_ hb; rw [pb]; have n0_ := Aside0.mk (below_step (by repeat (first | (with_reducible first | exact HB.out | apply below_alloc | apply pw_below_drewN | apply below_drew1) | exact HB.out)) hb); clear HB; have HB := n0_; clear n0_ hb))
        go_roundg k1
        case measure => omega
        case rel => exact ⟨x + 1, by first | rfl | (simp [*]; done), ⟨by have := HI.out; have := c4k.out; refine ⟨by omega, by omega, by omega⟩⟩, ⟨fun j h1 h2 => by
          by_cases e : j = x
          · rw [e]; exact hqk.out.symm
          · exact HA.out j h1 (by omega)⟩, ⟨(by repeat (first | (with_reducible first | exact HB.out | apply below_alloc | apply pw_below_drewN | apply below_drew1) | exact HB.out))⟩⟩
    · have c4b := decide_eq_false c4
      have c4k := Aside0.mk c4
      clear c4 hi hnn
      go_wp2
      go_ret
      exact ⟨by have i_ := HI.out; have c_ := c4k.out; have l_ : pn = ps.length := HR.out.len; rw [fstS_none z52 (fun j h1 h2 => HA.out j h1 (by omega))]; rfl, (by repeat (first | (with_reducible first | exact HB.out | apply below_alloc | apply pw_below_drewN | apply below_drew1) | exact HB.out))⟩

set_option maxHeartbeats 8000000 in
set_option maxRecDepth 100000 in
theorem index69_calls (P : RS) (us : List S69) (v : Value) (p : S69 → Bool) (w : World) (hR : Rw k69 w P us) (hn : P.n ≤ 100) (hc : Cnd en w v p) : Calls Try.prog 36 #[.slice P.a P.n P.c, v] w fun e w' => e = .returned (.int .i64 (fstS p us)) ∧ Below w.heap.size w w' := by
  have hu69 := Try.underlying69
  obtain ⟨pa, pn, pc⟩ := P
  have HR := Aside0.mk hR
  have HN := Aside0.mk hn
  have HC := Aside0.mk hc
  clear hR hn hc
  have HB := Aside0.mk (Below.refl w.heap.size w)
  go_enter Try.func36, Try.ntmps36
  go_wp2
  go_loopg [8] 200 (fun kq v8 w' => ∃ (x : Int), v8 = .int .i64 x ∧ Aside0 (0 ≤ x ∧ x ≤ pn ∧ (kq : Int) + x ≥ 101) ∧ Aside0 (∀ j : Int, 0 ≤ j → j < x → p (us.getD j.toNat z69) = false) ∧ Aside0 (Below w.heap.size w w'))
  case atStart => exact ⟨0, rfl, ⟨by have := HN.out; omega⟩, ⟨fun j h1 h2 => by omega⟩, ⟨(by repeat (first | (with_reducible first | exact HB.out | apply below_alloc | apply pw_below_drewN | apply below_drew1) | exact HB.out))⟩⟩
  case round =>
    clear HB
    obtain ⟨x, rfl, HI, HA, HB⟩ := hrel
    have hi := HI.out
    have hnn : pn ≤ 100 := HN.out
    cases gk with
    | zero => exfalso; omega
    | succ k1 =>
    by_cases c4 : x < (pn : Int)
    · have c4b := decide_eq_true c4
      have p0 : 0 ≤ x := hi.1
      have p0b := decide_eq_true p0
      have hw : wrap64 (x + 1) = x + 1 := wrap64_of (by omega) (by omega)
      obtain ⟨ad, he, h0, h1, h2, h3, h4, h5, h6, h7, h8, h9, h10, h11⟩ := at_E HR.out HB.out x p0 c4
      dsimp only at he
      subst he
      replace p0 := eq_true p0
      have c4k := Aside0.mk c4
      replace c4 := eq_true c4
      obtain ⟨q, hq⟩ : ∃ q, q = p (rd_T69 us x) := ⟨_, rfl⟩
      have hqk := Aside0.mk hq
      clear hq
      cases q with
      | true =>
        have pb := hqk.out.symm
        clear hi hnn
        go_wp2_with (first | ((with_reducible refine gate_dst (N := 16) rfl ?_); refine goesC_ (some 16) rfl rfl rfl rfl HC.out (by repeat (first | (with_reducible first | exact HB.out | apply below_alloc | apply pw_below_drewN | apply below_drew1) | exact HB.out)) (rd_T69 us x) (by first | rfl | (simp only [List.map_toArray, List.map_cons, List.map_nil]; rfl)) ?_; intro wc_ hb; rw [pb]; have n0_ := Aside0.mk (below_step (by repeat (first | (with_reducible first | exact HB.out | apply below_alloc | apply pw_below_drewN | apply below_drew1) | exact HB.out)) hb); clear HB; have HB := n0_; clear n0_ hb))
        go_ret
        exact ⟨by have i_ := HI.out; have c_ := c4k.out; have l_ : pn = us.length := HR.out.len; rw [fstS_at z69 i_.1 (by omega) hqk.out.symm HA.out]; rfl, (by repeat (first | (with_reducible first | exact HB.out | apply below_alloc | apply pw_below_drewN | apply below_drew1) | exact HB.out))⟩
      | false =>
        have pb := hqk.out.symm
        clear hi hnn
        go_wp2_with (first | ((with_reducible refine gate_dst (N := 16) rfl ?_); refine goesC_ (some 16) rfl rfl rfl rfl HC.out (by repeat (first | (with_reducible first | exact HB.out | apply below_alloc | apply pw_below_drewN | apply below_drew1) | exact HB.out)) (rd_T69 us x) (by first | rfl | (simp only [List.map_toArray, List.map_cons, List.map_nil]; rfl)) ?_; intro wc_ hb; rw [pb]; have n0_ := Aside0.mk (below_step (by repeat (first | (with_reducible first | exact HB.out | apply below_alloc | apply pw_below_drewN | apply below_drew1) | exact HB.out)) hb); clear HB; have HB := n0_; clear n0_ hb))
        go_roundg k1
        case measure => omega
        case rel => exact ⟨x + 1, by first | rfl | (simp [*]; done), ⟨by have := HI.out; have := c4k.out; refine ⟨by omega, by omega, by omega⟩⟩, ⟨fun j h1 h2 => by
          by_cases e : j = x
          · rw [e]; exact hqk.out.symm
          · exact HA.out j h1 (by omega)⟩, ⟨(by repeat (first | (with_reducible first | exact HB.out | apply below_alloc | apply pw_below_drewN | apply below_drew1) | exact HB.out))⟩⟩
    · have c4b := decide_eq_false c4
      have c4k := Aside0.mk c4
      clear c4 hi hnn
      go_wp2
      go_ret
      exact ⟨by have i_ := HI.out; have c_ := c4k.out; have l_ : pn = us.length := HR.out.len; rw [fstS_none z69 (fun j h1 h2 => HA.out j h1 (by omega))]; rfl, (by repeat (first | (with_reducible first | exact HB.out | apply below_alloc | apply pw_below_drewN | apply below_drew1) | exact HB.out))⟩

set_option maxHeartbeats 8000000 in
set_option maxRecDepth 100000 in
theorem present_cnd (w : World) : Cnd pl w (.func (.func 25) #[] #[]) (fun x => !x.f5) := by
  refine ⟨25, Try.f25, #[], rfl, Try.func25, by kernel_rfl, by kernel_rfl, fun w1 x hb0 => ?_⟩
  have hu52 := Try.underlying52
  have HB := Aside0.mk (Below.refl w1.heap.size w1)
  skip
  clear hb0
  show Calls Try.prog 25 #[.agg (pl x)] w1 _
  go_enter Try.func25, Try.ntmps25
  go_wp2_with (first | ((with_reducible refine gate_dst (N := 1) rfl ?_); refine box_event ?hg (N := 1) ?hd (cs := (pl x)) (t := 52) ?hr ?_; (case hd => rfl); (case hg => rfl); (case hr => first | (go_simp; done) | (go_simp; rfl)); intro g2 hg wg2_ hbox hb; have GEg2 := Aside0.mk ((by rw [hg]; exact (below_size (by repeat (first | (with_reducible first | exact HB.out | apply below_alloc | apply pw_below_drewN | apply below_drew1) | exact HB.out))) : w1.heap.size ≤ g2)); have n0_ := Aside0.mk (below_step (by repeat (first | (with_reducible first | exact HB.out | apply below_alloc | apply pw_below_drewN | apply below_drew1) | exact HB.out)) hb); clear HB; have HB := n0_; clear n0_; have BKg2 := Aside0.mk hbox; clear hb hbox hg; obtain ⟨z1_0, z1_1, z1_2, z1_3, z1_4, z1_5⟩ := cells_P BKg2.out; have f1_ := blk_frozen BKg2.out))
  go_ret
  exact ⟨rfl, (by repeat (first | (with_reducible first | exact HB.out | apply below_alloc | apply pw_below_drewN | apply below_drew1) | exact HB.out))⟩

set_option maxHeartbeats 8000000 in
set_option maxRecDepth 100000 in
theorem other_cnd {w : World} (gc : Nat) (y : Int) (hc : w.heap[gc]? = some (.cells #[.int .i64 y] 3 (0, 0))) : Cnd pl w (.func (.func 26) #[] #[.pointer (some ⟨gc, 0, none⟩)]) (fun x => x.f1 != y) := by
  refine ⟨26, Try.f26, #[.pointer (some ⟨gc, 0, none⟩)], rfl, Try.func26, by kernel_rfl, by kernel_rfl, fun w1 x hb0 => ?_⟩
  have hu52 := Try.underlying52
  have HB := Aside0.mk (Below.refl w1.heap.size w1)
  have BKc := Aside0.mk (blk_below hc hb0)
  clear hc
  clear hb0
  show Calls Try.prog 26 #[.agg (pl x), .pointer (some ⟨gc, 0, none⟩)] w1 _
  go_enter Try.func26, Try.ntmps26
  go_wp2_with (first | ((with_reducible refine gate_dst (N := 2) rfl ?_); refine box_event ?hg (N := 2) ?hd (cs := (pl x)) (t := 52) ?hr ?_; (case hd => rfl); (case hg => rfl); (case hr => first | (go_simp; done) | (go_simp; rfl)); intro g2 hg wg2_ hbox hb; have GEg2 := Aside0.mk ((by rw [hg]; exact (below_size (by repeat (first | (with_reducible first | exact HB.out | apply below_alloc | apply pw_below_drewN | apply below_drew1) | exact HB.out))) : w1.heap.size ≤ g2)); have n0_ := Aside0.mk (below_step (by repeat (first | (with_reducible first | exact HB.out | apply below_alloc | apply pw_below_drewN | apply below_drew1) | exact HB.out)) hb); have n1_ := Aside0.mk (blk_below (g := gc) (o := .cells #[.int .i64 y] 3 (0, 0)) (by (with_reducible repeat (first | refine blk_drewN ?_ _ | refine blk_drew ?_ | refine blk_alloc ?_ _)); exact BKc.out) hb); clear HB BKc; have HB := n0_; have BKc := n1_; clear n0_ n1_; have BKg2 := Aside0.mk hbox; clear hb hbox hg; have z1_ := (blk_cell BKc.out 0).trans rfl; have f1_ := blk_frozen BKc.out; obtain ⟨z2_0, z2_1, z2_2, z2_3, z2_4, z2_5⟩ := cells_P BKg2.out; have f2_ := blk_frozen BKg2.out))
  go_ret
  exact ⟨rfl, (by repeat (first | (with_reducible first | exact HB.out | apply below_alloc | apply pw_below_drewN | apply below_drew1) | exact HB.out))⟩

set_option maxHeartbeats 8000000 in
set_option maxRecDepth 100000 in
theorem numbered_cnd {w : World} (gc : Nat) (y : Int) (hc : w.heap[gc]? = some (.cells #[.int .i64 y] 3 (0, 0))) : Cnd pl w (.func (.func 32) #[] #[.pointer (some ⟨gc, 0, none⟩)]) (fun x => x.f0 == y) := by
  refine ⟨32, Try.f32, #[.pointer (some ⟨gc, 0, none⟩)], rfl, Try.func32, by kernel_rfl, by kernel_rfl, fun w1 x hb0 => ?_⟩
  have hu52 := Try.underlying52
  have HB := Aside0.mk (Below.refl w1.heap.size w1)
  have BKc := Aside0.mk (blk_below hc hb0)
  clear hc
  clear hb0
  show Calls Try.prog 32 #[.agg (pl x), .pointer (some ⟨gc, 0, none⟩)] w1 _
  go_enter Try.func32, Try.ntmps32
  go_wp2_with (first | ((with_reducible refine gate_dst (N := 2) rfl ?_); refine box_event ?hg (N := 2) ?hd (cs := (pl x)) (t := 52) ?hr ?_; (case hd => rfl); (case hg => rfl); (case hr => first | (go_simp; done) | (go_simp; rfl)); intro g2 hg wg2_ hbox hb; have GEg2 := Aside0.mk ((by rw [hg]; exact (below_size (by repeat (first | (with_reducible first | exact HB.out | apply below_alloc | apply pw_below_drewN | apply below_drew1) | exact HB.out))) : w1.heap.size ≤ g2)); have n0_ := Aside0.mk (below_step (by repeat (first | (with_reducible first | exact HB.out | apply below_alloc | apply pw_below_drewN | apply below_drew1) | exact HB.out)) hb); have n1_ := Aside0.mk (blk_below (g := gc) (o := .cells #[.int .i64 y] 3 (0, 0)) (by (with_reducible repeat (first | refine blk_drewN ?_ _ | refine blk_drew ?_ | refine blk_alloc ?_ _)); exact BKc.out) hb); clear HB BKc; have HB := n0_; have BKc := n1_; clear n0_ n1_; have BKg2 := Aside0.mk hbox; clear hb hbox hg; have z1_ := (blk_cell BKc.out 0).trans rfl; have f1_ := blk_frozen BKc.out; obtain ⟨z2_0, z2_1, z2_2, z2_3, z2_4, z2_5⟩ := cells_P BKg2.out; have f2_ := blk_frozen BKg2.out))
  go_ret
  exact ⟨rfl, (by repeat (first | (with_reducible first | exact HB.out | apply below_alloc | apply pw_below_drewN | apply below_drew1) | exact HB.out))⟩

set_option maxHeartbeats 8000000 in
set_option maxRecDepth 100000 in
theorem owned_cnd {w : World} (gc : Nat) (y : Int) (hc : w.heap[gc]? = some (.cells #[.int .i64 y] 3 (0, 0))) : Cnd en w (.func (.func 34) #[] #[.pointer (some ⟨gc, 0, none⟩)]) (fun x => x.f1 == y) := by
  refine ⟨34, Try.f34, #[.pointer (some ⟨gc, 0, none⟩)], rfl, Try.func34, by kernel_rfl, by kernel_rfl, fun w1 x hb0 => ?_⟩
  have hu69 := Try.underlying69
  have HB := Aside0.mk (Below.refl w1.heap.size w1)
  have BKc := Aside0.mk (blk_below hc hb0)
  clear hc
  clear hb0
  show Calls Try.prog 34 #[.agg (en x), .pointer (some ⟨gc, 0, none⟩)] w1 _
  go_enter Try.func34, Try.ntmps34
  go_wp2_with (first | ((with_reducible refine gate_dst (N := 2) rfl ?_); refine box_event ?hg (N := 2) ?hd (cs := (en x)) (t := 69) ?hr ?_; (case hd => rfl); (case hg => rfl); (case hr => first | (go_simp; done) | (go_simp; rfl)); intro g2 hg wg2_ hbox hb; have GEg2 := Aside0.mk ((by rw [hg]; exact (below_size (by repeat (first | (with_reducible first | exact HB.out | apply below_alloc | apply pw_below_drewN | apply below_drew1) | exact HB.out))) : w1.heap.size ≤ g2)); have n0_ := Aside0.mk (below_step (by repeat (first | (with_reducible first | exact HB.out | apply below_alloc | apply pw_below_drewN | apply below_drew1) | exact HB.out)) hb); have n1_ := Aside0.mk (blk_below (g := gc) (o := .cells #[.int .i64 y] 3 (0, 0)) (by (with_reducible repeat (first | refine blk_drewN ?_ _ | refine blk_drew ?_ | refine blk_alloc ?_ _)); exact BKc.out) hb); clear HB BKc; have HB := n0_; have BKc := n1_; clear n0_ n1_; have BKg2 := Aside0.mk hbox; clear hb hbox hg; have z1_ := (blk_cell BKc.out 0).trans rfl; have f1_ := blk_frozen BKc.out; obtain ⟨z2_0, z2_1, z2_2, z2_3, z2_4, z2_5, z2_6, z2_7, z2_8, z2_9, z2_10, z2_11⟩ := cells_E BKg2.out; have f2_ := blk_frozen BKg2.out))
  go_ret
  exact ⟨rfl, (by repeat (first | (with_reducible first | exact HB.out | apply below_alloc | apply pw_below_drewN | apply below_drew1) | exact HB.out))⟩

end Go.Proofs.Ytolcofjdjbnimaa.V
