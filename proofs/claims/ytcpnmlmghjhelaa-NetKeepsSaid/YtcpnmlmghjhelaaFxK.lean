/- The law NetKeeps and what it alone reaches: a plain function each, and a proof that the Go code comes to its answers. Out of the kit's print program; mended by hand: what is pushed is added to what was sent. -/
import Derived.Test.YtcpnmlmghjhelaaFx2
import Derived.Test.YtcpnmlmghjhelaaFx3
import Derived.Test.YtcpnmlmghjhelaaFx4
import Derived.Test.YtcpnmlmghjhelaaFx5
import Derived.Test.YtcpnmlmghjhelaaFx6
namespace Go.Proofs.Ytcpnmlmghjhelaa.F
open Go.RowKit Go.Proofs.YtcpnmlmghjhelaaW.PrintWords Go.Proofs.YtcpnmlmghjhelaaW.PrintLast Go.Proofs.YtcpnmlmghjhelaaW.PrintMore
attribute [local go_sem] max2_int min2_int max_two min_two max_three min_three max_four min_four   -- for this text's walks alone
set_option linter.unusedVariables false
set_option linter.unusedSimpArgs false

/-! #### struct type 42 -/
structure S42 where
  f0 : Int
  f1 : Int
  f2 : (List S32)
def z42 : S42 := ⟨(0 : Int), (0 : Int), ([] : List S32)⟩
def k42 : Kd S42 := Kd.iso (Kd.pair (Kd.int .i64) (Kd.pair (Kd.int .i64) (Kd.slice 32 k32))) (fun x : S42 => (x.f0, x.f1, x.f2))
theorem k42_heap : Kd.Heap k42 := Kd.heap_iso _ (Kd.heap_pair (Kd.heap_int .i64) (Kd.heap_pair (Kd.heap_int .i64) (Kd.heap_slice 32 k32_heap)))
theorem k42_open {w : World} {x : S42} {cs : List Value} (h : k42.K w x cs) : ∃ A2 c2, cs = [.int .i64 x.f0, .int .i64 x.f1, .slice A2 x.f2.length c2] ∧ x.f2.length ≤ c2 ∧ k32.C w A2 x.f2.length x.f2 := by
  obtain ⟨_, _, rfl, rfl, ⟨_, _, rfl, rfl, ⟨A2, c2, rfl, l2, g2⟩⟩⟩ := h
  exact ⟨A2, c2, rfl, l2, g2⟩
theorem k42_openM {w : World} {base : Nat} {ok : Nat → Prop} {x : S42} {cs : List Value} (h : k42.M w base ok x cs) : ∃ v2, cs = [.int .i64 x.f0, .int .i64 x.f1, v2] ∧ k32.R 32 w base ok v2 x.f2 := by
  obtain ⟨_, _, rfl, rfl, ⟨_, _, rfl, rfl, ⟨v2, rfl, g2⟩⟩⟩ := h
  exact ⟨v2, rfl, g2⟩
theorem k42_mk (w : World) (x : S42) {A2 : Option Addr} {c2 : Nat} (l2 : x.f2.length ≤ c2) (g2 : k32.C w A2 x.f2.length x.f2) : k42.K w x [.int .i64 x.f0, .int .i64 x.f1, .slice A2 x.f2.length c2] := ⟨[.int .i64 x.f0], [.int .i64 x.f1, .slice A2 x.f2.length c2], rfl, rfl, ⟨[.int .i64 x.f1], [.slice A2 x.f2.length c2], rfl, rfl, ⟨A2, c2, rfl, l2, g2⟩⟩⟩
theorem k42_mkM (w : World) (base : Nat) (ok : Nat → Prop) (x : S42) {v2 : Value} (g2 : k32.R 32 w base ok v2 x.f2) : k42.M w base ok x [.int .i64 x.f0, .int .i64 x.f1, v2] := ⟨[.int .i64 x.f0], [.int .i64 x.f1, v2], rfl, rfl, ⟨[.int .i64 x.f1], [v2], rfl, rfl, ⟨v2, rfl, g2⟩⟩⟩
theorem k42_openF {W : World} {ok : Nat → Prop} {x : S42} {cs : List Value} (h : Kd.FK k42 W ok x cs) : ∃ A2 c2, cs = [.int .i64 x.f0, .int .i64 x.f1, .slice A2 x.f2.length c2] ∧ x.f2.length ≤ c2 ∧ Kd.F k32 W ok A2 x.f2.length x.f2 := by
  obtain ⟨A2, c2, rfl, l2, _⟩ := k42_open (Kd.FK_now h)
  exact ⟨A2, c2, rfl, l2, (fun W' hW => by obtain ⟨A2_, c2_, he, l2_, g2_⟩ := k42_open (h W' hW); injection (Option.some.inj (show some (Value.slice A2 x.f2.length c2) = some (Value.slice A2_ x.f2.length c2_) from congrArg (fun l => l[2]?) he)) with ha_ _ _; rw [ha_]; exact g2_)⟩
theorem k42_mkF (W : World) (ok : Nat → Prop) (x : S42) {A2 : Option Addr} {c2 : Nat} (l2 : x.f2.length ≤ c2) (g2 : Kd.F k32 W ok A2 x.f2.length x.f2) : Kd.FK k42 W ok x [.int .i64 x.f0, .int .i64 x.f1, .slice A2 x.f2.length c2] := fun W2 hW => k42_mk W2 x l2 (g2 W2 hW)
def rd_T42 (xs : List S42) (i : Int) : S42 := xs.getD i.toNat z42
theorem at_T42 {w : World} {A : Option Addr} {n : Nat} {xs : List S42} (h : Kd.C k42 w A n xs) (i : Int) (h0 : 0 ≤ i) (h1 : i < n) : ∃ ad A2 c2, A = some ad ∧ w.cell? (ad.add (i.toNat * 3)) = some (.int .i64 (rd_T42 xs i).f0) ∧ w.cell? ⟨(ad.add (i.toNat * 3)).block, (ad.add (i.toNat * 3)).off + 1, none⟩ = some (.int .i64 (rd_T42 xs i).f1) ∧ w.cell? ⟨(ad.add (i.toNat * 3)).block, (ad.add (i.toNat * 3)).off + 2, none⟩ = some (.slice A2 (rd_T42 xs i).f2.length c2) ∧ (rd_T42 xs i).f2.length ≤ c2 ∧ k32.C w A2 (rd_T42 xs i).f2.length (rd_T42 xs i).f2 := by
  obtain ⟨ad, c, e, _, hK, hc0⟩ := Kd.C_get h z42 i h0 h1
  have hc : ∀ j u, c[j]? = some u → w.cell? (ad.add (i.toNat * 3 + j)) = some u := hc0
  obtain ⟨A2, c2, rfl, l2, g2⟩ := k42_open hK
  exact ⟨ad, A2, c2, e, hc 0 _ rfl, by rw [← add_field _ _ 1 (by omega)]; exact hc 1 _ rfl, by rw [← add_field _ _ 2 (by omega)]; exact hc 2 _ rfl, l2, g2⟩

/-! ### skirmishlaw48_count: function 18 -/
def skirmishlaw48_count.l0 : Nat → List (S32) → Int → Int → Int → Int → Int → Int → Int → Int → Int → Int → Int → Int → List (S49) → ByteArray → Option (Int)
  | 0, _, _, _, _, _, _, _, _, _, _, _, _, _, _, _ => none
  | k + 1, x0, x5, x6, x326000, x326001, x326002, x326003, x326004, x326005, x326006, x326007, x326008, x326009, x326010, x326011 => if x6 < (x0.length : Int) then (if 0 ≤ x6 then ((skirmishref47_SamePacket.f k ((rd_T32 x0 x6).f0) ((rd_T32 x0 x6).f1) ((rd_T32 x0 x6).f2) ((rd_T32 x0 x6).f3) ((rd_T32 x0 x6).f4) ((rd_T32 x0 x6).f5) ((rd_T32 x0 x6).f6) ((rd_T32 x0 x6).f7.f0) ((rd_T32 x0 x6).f7.f1) ((rd_T32 x0 x6).f7.f2) ((rd_T32 x0 x6).f7.f3) ((rd_T32 x0 x6).f8) x326000 x326001 x326002 x326003 x326004 x326005 x326006 x326007 x326008 x326009 x326010 x326011).bind fun t327 => (if t327 = true then (skirmishlaw48_count.l0 k x0 (wrap64 (x5 + 1)) (wrap64 (x6 + 1)) x326000 x326001 x326002 x326003 x326004 x326005 x326006 x326007 x326008 x326009 x326010 x326011) else (skirmishlaw48_count.l0 k x0 x5 (wrap64 (x6 + 1)) x326000 x326001 x326002 x326003 x326004 x326005 x326006 x326007 x326008 x326009 x326010 x326011))) else (none)) else (some x5)
def skirmishlaw48_count.f (k : Nat) (l0 : List (S32)) (a1_0 : Int) (a1_1 : Int) (a1_2 : Int) (a1_3 : Int) (a1_4 : Int) (a1_5 : Int) (a1_6 : Int) (a1_7 : Int) (a1_8 : Int) (a1_9 : Int) (l1_10 : List (S49)) (a1_11 : ByteArray) : Option (Int) := skirmishlaw48_count.l0 k l0 0 0 a1_0 a1_1 a1_2 a1_3 a1_4 a1_5 a1_6 a1_7 a1_8 a1_9 l1_10 a1_11
theorem skirmishlaw48_count.mono_l : ∀ k, (∀ y0 y1 y2 y3 y4 y5 y6 y7 y8 y9 y10 y11 y12 y13 y14, LeO (skirmishlaw48_count.l0 k y0 y1 y2 y3 y4 y5 y6 y7 y8 y9 y10 y11 y12 y13 y14) (skirmishlaw48_count.l0 (k + 1) y0 y1 y2 y3 y4 y5 y6 y7 y8 y9 y10 y11 y12 y13 y14))
  | 0 => fun _ _ _ _ _ _ _ _ _ _ _ _ _ _ _ r h => by simp [skirmishlaw48_count.l0] at h
  | k + 1 => by
    have ih0 := skirmishlaw48_count.mono_l k
    · intro y0 y1 y2 y3 y4 y5 y6 y7 y8 y9 y10 y11 y12 y13 y14
      unfold skirmishlaw48_count.l0
      repeat' first
      | (with_reducible exact ih0 _ _ _ _ _ _ _ _ _ _ _ _ _ _ _)
      | (with_reducible exact skirmishref47_SamePacket.mono _ _ _ _ _ _ _ _ _ _ _ _ _ _ _ _ _ _ _ _ _ _ _ _ _)
      | (with_reducible exact LeO.refl _)
      | (with_reducible exact LeO.none _)
      | (with_reducible refine LeO.ite ?_ ?_)
      | (with_reducible refine LeO.bind ?_ (fun _ => ?_))
      | exact ih0 _ _ _ _ _ _ _ _ _ _ _ _ _ _ _
      | exact skirmishref47_SamePacket.mono _ _ _ _ _ _ _ _ _ _ _ _ _ _ _ _ _ _ _ _ _ _ _ _ _
      | exact LeO.none _
      | refine LeO.ite ?_ ?_
      | refine LeO.bind ?_ (fun _ => ?_)
theorem skirmishlaw48_count.mono : ∀ a0 a1 a2 a3 a4 a5 a6 a7 a8 a9 a10 a11 a12 k, LeO (skirmishlaw48_count.f k a0 a1 a2 a3 a4 a5 a6 a7 a8 a9 a10 a11 a12) (skirmishlaw48_count.f (k + 1) a0 a1 a2 a3 a4 a5 a6 a7 a8 a9 a10 a11 a12) := by
  intro a0 a1 a2 a3 a4 a5 a6 a7 a8 a9 a10 a11 a12 k
  have ih0 := skirmishlaw48_count.mono_l k
  unfold skirmishlaw48_count.f
  repeat' first
      | (with_reducible exact ih0 _ _ _ _ _ _ _ _ _ _ _ _ _ _ _)
      | (with_reducible exact skirmishref47_SamePacket.mono _ _ _ _ _ _ _ _ _ _ _ _ _ _ _ _ _ _ _ _ _ _ _ _ _)
      | (with_reducible exact LeO.refl _)
      | (with_reducible exact LeO.none _)
      | (with_reducible refine LeO.ite ?_ ?_)
      | (with_reducible refine LeO.bind ?_ (fun _ => ?_))
      | exact ih0 _ _ _ _ _ _ _ _ _ _ _ _ _ _ _
      | exact skirmishref47_SamePacket.mono _ _ _ _ _ _ _ _ _ _ _ _ _ _ _ _ _ _ _ _ _ _ _ _ _
      | exact LeO.none _
      | refine LeO.ite ?_ ?_
      | refine LeO.bind ?_ (fun _ => ?_)
set_option maxHeartbeats 8000000 in
set_option maxRecDepth 100000 in
theorem skirmishlaw48_count.calls (k : Nat) (A0 : Option Addr) (c0 : Nat) (l0 : List (S32)) (a1_0 : Int) (a1_1 : Int) (a1_2 : Int) (a1_3 : Int) (a1_4 : Int) (a1_5 : Int) (a1_6 : Int) (a1_7 : Int) (a1_8 : Int) (a1_9 : Int) (A1_10 : Option Addr) (c1_10 : Nat) (l1_10 : List (S49)) (a1_11 : ByteArray) (r : Int) (w : World) (hr0 : Kd.C k32 w A0 l0.length l0) (hc0 : l0.length ≤ c0) (hr1_10 : Kd.C k49 w A1_10 l1_10.length l1_10) (hc1_10 : l1_10.length ≤ c1_10) (h : skirmishlaw48_count.f k l0 a1_0 a1_1 a1_2 a1_3 a1_4 a1_5 a1_6 a1_7 a1_8 a1_9 l1_10 a1_11 = some r) :
    Calls Try.prog 18 #[.slice A0 l0.length c0, .agg #[.int .i64 a1_0, .int .i64 a1_1, .int .i64 a1_2, .int .i64 a1_3, .int .i64 a1_4, .int .i64 a1_5, .int .u64 a1_6, .int .i64 a1_7, .int .i64 a1_8, .int .i64 a1_9, .slice A1_10 l1_10.length c1_10, .string a1_11]] w fun e w' => e = .returned (.int .i64 r) ∧ Below w.heap.size w w' := by
  have hu32 := Try.underlying32
  have HR0 := Aside0.mk hr0
  have HC0 := Aside0.mk hc0
  clear hr0 hc0
  have HR1_10 := Aside0.mk hr1_10
  have HC1_10 := Aside0.mk hc1_10
  clear hr1_10 hc1_10
  have HB := Aside0.mk (Below.refl w.heap.size w)
  have H : (skirmishlaw48_count.l0 k l0 0 0 a1_0 a1_1 a1_2 a1_3 a1_4 a1_5 a1_6 a1_7 a1_8 a1_9 l1_10 a1_11) = some r := h
  clear h
  have H' := Aside0.mk H
  clear H
  go_enter Try.func18, Try.ntmps18
  go_wp2_with (first | ((with_reducible refine gate_dst (N := 3) rfl ?_); refine box_event ?hg (N := 3) ?hd (cs := #[.int .i64 a1_0, .int .i64 a1_1, .int .i64 a1_2, .int .i64 a1_3, .int .i64 a1_4, .int .i64 a1_5, .int .u64 a1_6, .int .i64 a1_7, .int .i64 a1_8, .int .i64 a1_9, .slice A1_10 l1_10.length c1_10, .string a1_11]) (t := 32) ?hr ?_; (case hd => rfl); (case hg => rfl); (case hr => first | (go_simp; done) | (go_simp; rfl)); intro gb325 hg w3 hbox hb; have n0_ := Aside0.mk (below_step (by repeat (first | (with_reducible first | exact HB.out | apply below_alloc | apply pw_below_drewN | apply below_drew1) | exact HB.out)) hb); have n1_ := Aside0.mk (hbox); have n2_ := Aside0.mk ((by rw [hg]; exact (below_size (by repeat (first | (with_reducible first | exact HB.out | apply below_alloc | apply pw_below_drewN | apply below_drew1) | exact HB.out))) : w.heap.size ≤ gb325)); have n3_ := Aside0.mk ((by rw [hg]; exact (below_size (by repeat (first | (with_reducible first | exact HB.out | apply below_alloc | apply pw_below_drewN | apply below_drew1) | exact HB.out))) : w.heap.size ≤ gb325)); clear HB; have HB := n0_; have BK325 := n1_; have GW325 := n2_; have GE325 := n3_; clear n0_ n1_ n2_ n3_; clear hb hbox hg))
  go_loopg [5, 6] k (fun kq v5 v6 w' => ∃ (x5_1 : Int) (x6_1 : Int), v5 = .int .i64 x5_1 ∧ v6 = .int .i64 x6_1 ∧ Aside0 (skirmishlaw48_count.l0 kq l0 x5_1 x6_1 a1_0 a1_1 a1_2 a1_3 a1_4 a1_5 a1_6 a1_7 a1_8 a1_9 l1_10 a1_11 = some r) ∧ Aside0 (kq ≤ k) ∧ Aside0 (w'.heap[gb325]? = some (.cells #[.int .i64 a1_0, .int .i64 a1_1, .int .i64 a1_2, .int .i64 a1_3, .int .i64 a1_4, .int .i64 a1_5, .int .u64 a1_6, .int .i64 a1_7, .int .i64 a1_8, .int .i64 a1_9, (.slice A1_10 l1_10.length c1_10), .string a1_11] 32 (0, 0))) ∧ Aside0 (Below w.heap.size w w'))
  case atStart => exact ⟨(0), (0), (by first | rfl | (simp; done) | (simp [*]; done)), (by first | rfl | (simp; done) | (simp [*]; done)), H', ⟨Nat.le_refl _⟩, ⟨by (with_reducible repeat (first | refine blk_drewN ?_ _ | refine blk_drew ?_ | refine blk_alloc ?_ _)); exact BK325.out⟩, ⟨by repeat (first | (with_reducible first | exact HB.out | apply below_alloc | apply pw_below_drewN | apply below_drew1 | refine below_set ?_ GE325.out) | exact HB.out)⟩⟩
  case round =>
    clear H'
    try clear c1
    try clear p2
    obtain ⟨x5_1, x6_1, rfl, rfl, HA, HK1, BK325, HB⟩ := hrel
    cases gk with
    | zero => exact absurd HA.out (by simp [skirmishlaw48_count.l0])
    | succ k1 =>
      have H := HA.out
      clear HA
      simp only [skirmishlaw48_count.l0] at H
      by_cases c4 : x6_1 < (l0.length : Int)
      · rw [if_pos c4] at H
        have c4b0 : decide (x6_1 < (l0.length : Int)) = true := decide_eq_true c4
        clear c4
        by_cases c5 : 0 ≤ x6_1
        · rw [if_pos c5] at H
          have c5b0 : decide (0 ≤ x6_1) = true := decide_eq_true c5
          clear c5
          replace H := Option.bind_eq_some_iff.mp H
          obtain ⟨t327, A60, H⟩ := H
          replace H : (if t327 = true then (skirmishlaw48_count.l0 k1 l0 (wrap64 (x5_1 + 1)) (wrap64 (x6_1 + 1)) a1_0 a1_1 a1_2 a1_3 a1_4 a1_5 a1_6 a1_7 a1_8 a1_9 l1_10 a1_11) else (skirmishlaw48_count.l0 k1 l0 x5_1 (wrap64 (x6_1 + 1)) a1_0 a1_1 a1_2 a1_3 a1_4 a1_5 a1_6 a1_7 a1_8 a1_9 l1_10 a1_11)) = some r := H
          have A6 := Aside0.mk A60
          clear A60
          by_cases c7 : t327 = true
          · subst c7
            have H1 : (skirmishlaw48_count.l0 k1 l0 (wrap64 (x5_1 + 1)) (wrap64 (x6_1 + 1)) a1_0 a1_1 a1_2 a1_3 a1_4 a1_5 a1_6 a1_7 a1_8 a1_9 l1_10 a1_11) = some r := by rw [if_pos rfl] at H; exact H
            clear H
            have H := H1
            clear H1
            have H' := Aside0.mk H
            clear H
            try go_wp2
            have n0_ := Aside0.mk (blk_drew BK325.out)
            have n1_ := Aside0.mk (below_drew1 HB.out)
            clear BK325
            clear HB
            have BK325 := n0_
            have HB := n1_
            clear n0_ n1_
            have p326 : 0 ≤ (x6_1 : Int) := of_decide_eq_true (by first | (with_reducible assumption) | assumption)
            have q326 : x6_1 < (l0.length : Int) := of_decide_eq_true (by first | (with_reducible assumption) | assumption)
            obtain ⟨ad326, A326_10, c326_10, e326, hx326_0, hx326_1, hx326_2, hx326_3, hx326_4, hx326_5, hx326_6, hx326_7, hx326_8, hx326_9, hx326_10, hx326_11, hl326_10, hi326_10⟩ := at_T32 HR0.out x6_1 p326 q326
            have hw326_11 := hx326_11
            have hw326_10 := hx326_10
            have hw326_9 := hx326_9
            have hw326_8 := hx326_8
            have hw326_7 := hx326_7
            have hw326_6 := hx326_6
            have hw326_5 := hx326_5
            have hw326_4 := hx326_4
            have hw326_3 := hx326_3
            have hw326_2 := hx326_2
            have hw326_1 := hx326_1
            have hw326_0 := hx326_0
            cases e326
            replace hx326_0 := (HB.out.cell (World.block_lt_of_cell? w _ hx326_0)).trans hx326_0
            replace hx326_1 := (HB.out.cell (World.block_lt_of_cell? w _ hx326_1)).trans hx326_1
            replace hx326_2 := (HB.out.cell (World.block_lt_of_cell? w _ hx326_2)).trans hx326_2
            replace hx326_3 := (HB.out.cell (World.block_lt_of_cell? w _ hx326_3)).trans hx326_3
            replace hx326_4 := (HB.out.cell (World.block_lt_of_cell? w _ hx326_4)).trans hx326_4
            replace hx326_5 := (HB.out.cell (World.block_lt_of_cell? w _ hx326_5)).trans hx326_5
            replace hx326_6 := (HB.out.cell (World.block_lt_of_cell? w _ hx326_6)).trans hx326_6
            replace hx326_7 := (HB.out.cell (World.block_lt_of_cell? w _ hx326_7)).trans hx326_7
            replace hx326_8 := (HB.out.cell (World.block_lt_of_cell? w _ hx326_8)).trans hx326_8
            replace hx326_9 := (HB.out.cell (World.block_lt_of_cell? w _ hx326_9)).trans hx326_9
            replace hx326_10 := (HB.out.cell (World.block_lt_of_cell? w _ hx326_10)).trans hx326_10
            replace hx326_11 := (HB.out.cell (World.block_lt_of_cell? w _ hx326_11)).trans hx326_11
            have HR326_10 := Aside0.mk hi326_10
            have HC326_10 := Aside0.mk hl326_10
            clear hi326_10 hl326_10
            replace p326 := eq_true p326
            replace q326 := eq_true q326
            refine start_ (n := 6) (S := fun w' => w'.cell? ⟨gb325, 0, none⟩ = some (.int .i64 a1_0) ∧ w'.cell? ⟨gb325, 1, none⟩ = some (.int .i64 a1_1) ∧ w'.cell? ⟨gb325, 2, none⟩ = some (.int .i64 a1_2) ∧ w'.cell? ⟨gb325, 3, none⟩ = some (.int .i64 a1_3) ∧ w'.cell? ⟨gb325, 4, none⟩ = some (.int .i64 a1_4) ∧ w'.cell? ⟨gb325, 5, none⟩ = some (.int .i64 a1_5) ∧ w'.cell? ⟨gb325, 6, none⟩ = some (.int .u64 a1_6) ∧ w'.cell? ⟨gb325, 7, none⟩ = some (.int .i64 a1_7) ∧ w'.cell? ⟨gb325, 8, none⟩ = some (.int .i64 a1_8) ∧ w'.cell? ⟨gb325, 9, none⟩ = some (.int .i64 a1_9) ∧ w'.cell? ⟨gb325, 10, none⟩ = some (.slice A1_10 l1_10.length c1_10) ∧ w'.cell? ⟨gb325, 11, none⟩ = some (.string a1_11) ∧ w'.cell? (ad326.add ((x6_1).toNat * 12)) = some (.int .i64 ((rd_T32 l0 x6_1).f0)) ∧ w'.cell? ⟨(ad326.add ((x6_1).toNat * 12)).block, (ad326.add ((x6_1).toNat * 12)).off + 1, none⟩ = some (.int .i64 ((rd_T32 l0 x6_1).f1)) ∧ w'.cell? ⟨(ad326.add ((x6_1).toNat * 12)).block, (ad326.add ((x6_1).toNat * 12)).off + 2, none⟩ = some (.int .i64 ((rd_T32 l0 x6_1).f2)) ∧ w'.cell? ⟨(ad326.add ((x6_1).toNat * 12)).block, (ad326.add ((x6_1).toNat * 12)).off + 3, none⟩ = some (.int .i64 ((rd_T32 l0 x6_1).f3)) ∧ w'.cell? ⟨(ad326.add ((x6_1).toNat * 12)).block, (ad326.add ((x6_1).toNat * 12)).off + 4, none⟩ = some (.int .i64 ((rd_T32 l0 x6_1).f4)) ∧ w'.cell? ⟨(ad326.add ((x6_1).toNat * 12)).block, (ad326.add ((x6_1).toNat * 12)).off + 5, none⟩ = some (.int .i64 ((rd_T32 l0 x6_1).f5)) ∧ w'.cell? ⟨(ad326.add ((x6_1).toNat * 12)).block, (ad326.add ((x6_1).toNat * 12)).off + 6, none⟩ = some (.int .u64 ((rd_T32 l0 x6_1).f6)) ∧ w'.cell? ⟨(ad326.add ((x6_1).toNat * 12)).block, (ad326.add ((x6_1).toNat * 12)).off + 7, none⟩ = some (.int .i64 ((rd_T32 l0 x6_1).f7.f0)) ∧ w'.cell? ⟨(ad326.add ((x6_1).toNat * 12)).block, (ad326.add ((x6_1).toNat * 12)).off + 8, none⟩ = some (.int .i64 ((rd_T32 l0 x6_1).f7.f1)) ∧ w'.cell? ⟨(ad326.add ((x6_1).toNat * 12)).block, (ad326.add ((x6_1).toNat * 12)).off + 9, none⟩ = some (.int .i64 ((rd_T32 l0 x6_1).f7.f2)) ∧ w'.cell? ⟨(ad326.add ((x6_1).toNat * 12)).block, (ad326.add ((x6_1).toNat * 12)).off + 10, none⟩ = some (.slice A326_10 ((rd_T32 l0 x6_1).f7.f3).length c326_10) ∧ w'.cell? ⟨(ad326.add ((x6_1).toNat * 12)).block, (ad326.add ((x6_1).toNat * 12)).off + 11, none⟩ = some (.string ((rd_T32 l0 x6_1).f8))) (ds := []) #[false, false, false, false, false, false] (by kernel_rfl) rfl rfl ⟨(blk_cell BK325.out 0).trans rfl, (blk_cell BK325.out 1).trans rfl, (blk_cell BK325.out 2).trans rfl, (blk_cell BK325.out 3).trans rfl, (blk_cell BK325.out 4).trans rfl, (blk_cell BK325.out 5).trans rfl, (blk_cell BK325.out 6).trans rfl, (blk_cell BK325.out 7).trans rfl, (blk_cell BK325.out 8).trans rfl, (blk_cell BK325.out 9).trans rfl, (blk_cell BK325.out 10).trans rfl, (blk_cell BK325.out 11).trans rfl, ((HB.out.cell (World.block_lt_of_cell? w _ hw326_0)).trans hw326_0), ((HB.out.cell (World.block_lt_of_cell? w _ hw326_1)).trans hw326_1), ((HB.out.cell (World.block_lt_of_cell? w _ hw326_2)).trans hw326_2), ((HB.out.cell (World.block_lt_of_cell? w _ hw326_3)).trans hw326_3), ((HB.out.cell (World.block_lt_of_cell? w _ hw326_4)).trans hw326_4), ((HB.out.cell (World.block_lt_of_cell? w _ hw326_5)).trans hw326_5), ((HB.out.cell (World.block_lt_of_cell? w _ hw326_6)).trans hw326_6), ((HB.out.cell (World.block_lt_of_cell? w _ hw326_7)).trans hw326_7), ((HB.out.cell (World.block_lt_of_cell? w _ hw326_8)).trans hw326_8), ((HB.out.cell (World.block_lt_of_cell? w _ hw326_9)).trans hw326_9), ((HB.out.cell (World.block_lt_of_cell? w _ hw326_10)).trans hw326_10), ((HB.out.cell (World.block_lt_of_cell? w _ hw326_11)).trans hw326_11)⟩ (fun hHeld => ?_)
            generalize wr.drew = w8 at BK325 HB HR326_10 hx326_0 hx326_1 hx326_10 hx326_11 hx326_2 hx326_3 hx326_4 hx326_5 hx326_6 hx326_7 hx326_8 hx326_9 hHeld ⊢
            refine pure_ (i := 0) (N := some 13) (v := ?_) (a' := ?_) #[true, false, false, false, false, false] rfl rfl (by kernel_rfl) (fun _ _ _ h => h) (Or.inl ⟨by rfl, ?_⟩) ?_ ?_
            rotate_left
            · intro w'
              go_simp
              with_reducible rfl
            rotate_left
            · simp only [Act.put, List.setIfInBounds_toArray, List.set_cons_zero, List.set_cons_succ, i64_w, i32_w]
              rfl
            refine pure_ (i := 1) (N := some 14) (v := ?_) (a' := ?_) #[true, true, false, false, false, false] rfl rfl (by kernel_rfl) (fun _ _ _ h => h) (Or.inl ⟨by rfl, ?_⟩) ?_ ?_
            rotate_left
            · intro w'
              go_simp
              with_reducible rfl
            rotate_left
            · simp only [Act.put, List.setIfInBounds_toArray, List.set_cons_zero, List.set_cons_succ, i64_w, i32_w]
              rfl
            refine pure_ (i := 2) (N := some 15) (v := ?_) (a' := ?_) #[true, true, true, false, false, false] rfl rfl (by kernel_rfl) (fun _ _ _ h => h) (Or.inl ⟨by rfl, ?_⟩) ?_ ?_
            rotate_left
            · intro w'
              go_simp
              with_reducible rfl
            rotate_left
            · simp only [Act.put, List.setIfInBounds_toArray, List.set_cons_zero, List.set_cons_succ, i64_w, i32_w]
              rfl
            refine take_ (i := 3) (N := some 16) (v := ?_) (a' := ?_) #[true, true, true, true, false, false] rfl rfl (by kernel_rfl) (fun _ _ _ h => h) (Or.inl ⟨by rfl, ?_⟩) hHeld ?_ ?_
            rotate_left
            · rintro w' ⟨s0, s1, s2, s3, s4, s5, s6, s7, s8, s9, s10, s11, s12, s13, s14, s15, s16, s17, s18, s19, s20, s21, s22, s23⟩
              go_simp
              with_reducible rfl
            rotate_left
            · simp only [Act.put, List.setIfInBounds_toArray, List.set_cons_zero, List.set_cons_succ, i64_w, i32_w]
              rfl
            refine take_ (i := 4) (N := some 17) (v := ?_) (a' := ?_) #[true, true, true, true, true, false] rfl rfl (by kernel_rfl) (fun _ _ _ h => h) (Or.inl ⟨by rfl, ?_⟩) hHeld ?_ ?_
            rotate_left
            · rintro w' ⟨s0, s1, s2, s3, s4, s5, s6, s7, s8, s9, s10, s11, s12, s13, s14, s15, s16, s17, s18, s19, s20, s21, s22, s23⟩
              go_simp
              with_reducible rfl
            rotate_left
            · simp only [Act.put, List.setIfInBounds_toArray, List.set_cons_zero, List.set_cons_succ, i64_w, i32_w]
              rfl
            refine one_ (i := 5) (N := some 18) #[true, true, true, true, true, true] rfl rfl (by kernel_rfl) (by decide) (fun K hK => ?_)
            refine goes_ Try.func15 (by kernel_rfl) rfl #[.agg #[.int .i64 ((rd_T32 l0 x6_1).f0), .int .i64 ((rd_T32 l0 x6_1).f1), .int .i64 ((rd_T32 l0 x6_1).f2), .int .i64 ((rd_T32 l0 x6_1).f3), .int .i64 ((rd_T32 l0 x6_1).f4), .int .i64 ((rd_T32 l0 x6_1).f5), .int .u64 ((rd_T32 l0 x6_1).f6), .int .i64 ((rd_T32 l0 x6_1).f7.f0), .int .i64 ((rd_T32 l0 x6_1).f7.f1), .int .i64 ((rd_T32 l0 x6_1).f7.f2), .slice A326_10 ((rd_T32 l0 x6_1).f7.f3).length c326_10, .string ((rd_T32 l0 x6_1).f8)], .agg #[.int .i64 a1_0, .int .i64 a1_1, .int .i64 a1_2, .int .i64 a1_3, .int .i64 a1_4, .int .i64 a1_5, .int .u64 a1_6, .int .i64 a1_7, .int .i64 a1_8, .int .i64 a1_9, .slice A1_10 l1_10.length c1_10, .string a1_11]] (by rfl) rfl rfl (by (try simp only [List.map_toArray, List.map_cons, List.map_nil]); first | done | rfl | (simp only [List.length_drop, List.length_take]; rfl)) ?_
            with_reducible refine (skirmishref47_SamePacket.calls k1 ((rd_T32 l0 x6_1).f0) ((rd_T32 l0 x6_1).f1) ((rd_T32 l0 x6_1).f2) ((rd_T32 l0 x6_1).f3) ((rd_T32 l0 x6_1).f4) ((rd_T32 l0 x6_1).f5) ((rd_T32 l0 x6_1).f6) ((rd_T32 l0 x6_1).f7.f0) ((rd_T32 l0 x6_1).f7.f1) ((rd_T32 l0 x6_1).f7.f2) _ _ ((rd_T32 l0 x6_1).f7.f3) ((rd_T32 l0 x6_1).f8) a1_0 a1_1 a1_2 a1_3 a1_4 a1_5 a1_6 a1_7 a1_8 a1_9 _ _ l1_10 a1_11 true _ ?side1 ?side2 ?side3 ?side4 A6.out).mono ?_
            (case side1 => repeat (first | exact (Kd.C_below HR326_10.out HB.out) | (with_reducible refine Kd.C_alloc ?_ _) | (with_reducible refine Kd.C_drewN ?_ _) | (with_reducible refine Kd.C_drew ?_)))
            (case side2 => exact HC326_10.out)
            (case side3 => repeat (first | exact (Kd.C_below HR1_10.out HB.out) | (with_reducible refine Kd.C_alloc ?_ _) | (with_reducible refine Kd.C_drewN ?_ _) | (with_reducible refine Kd.C_drew ?_)))
            (case side4 => exact HC1_10.out)
            rintro e w9 ⟨rfl, hb⟩
            refine ⟨_, rfl, ?_⟩
            have n0_ := Aside0.mk (blk_below (g := gb325) (o := .cells #[.int .i64 a1_0, .int .i64 a1_1, .int .i64 a1_2, .int .i64 a1_3, .int .i64 a1_4, .int .i64 a1_5, .int .u64 a1_6, .int .i64 a1_7, .int .i64 a1_8, .int .i64 a1_9, .slice A1_10 l1_10.length c1_10, .string a1_11] 32 (0, 0)) (by (with_reducible repeat (first | refine blk_drewN ?_ _ | refine blk_drew ?_ | refine blk_alloc ?_ _)); exact BK325.out) hb)
            have n1_ := Aside0.mk (below_step (by repeat (first | (with_reducible first | exact HB.out | apply below_alloc | apply pw_below_drewN | apply below_drew1 | refine below_set ?_ GE325.out) | exact HB.out)) hb)
            clear BK325
            clear HB
            have BK325 := n0_
            have HB := n1_
            clear n0_ n1_
            (try clear hb)
            (try clear hb2)
            (try clear hk)
            (try clear hi)
            refine hK.out _ _ ⟨(blk_cell BK325.out 0).trans rfl, (blk_cell BK325.out 1).trans rfl, (blk_cell BK325.out 2).trans rfl, (blk_cell BK325.out 3).trans rfl, (blk_cell BK325.out 4).trans rfl, (blk_cell BK325.out 5).trans rfl, (blk_cell BK325.out 6).trans rfl, (blk_cell BK325.out 7).trans rfl, (blk_cell BK325.out 8).trans rfl, (blk_cell BK325.out 9).trans rfl, (blk_cell BK325.out 10).trans rfl, (blk_cell BK325.out 11).trans rfl, ((HB.out.cell (World.block_lt_of_cell? w _ hw326_0)).trans hw326_0), ((HB.out.cell (World.block_lt_of_cell? w _ hw326_1)).trans hw326_1), ((HB.out.cell (World.block_lt_of_cell? w _ hw326_2)).trans hw326_2), ((HB.out.cell (World.block_lt_of_cell? w _ hw326_3)).trans hw326_3), ((HB.out.cell (World.block_lt_of_cell? w _ hw326_4)).trans hw326_4), ((HB.out.cell (World.block_lt_of_cell? w _ hw326_5)).trans hw326_5), ((HB.out.cell (World.block_lt_of_cell? w _ hw326_6)).trans hw326_6), ((HB.out.cell (World.block_lt_of_cell? w _ hw326_7)).trans hw326_7), ((HB.out.cell (World.block_lt_of_cell? w _ hw326_8)).trans hw326_8), ((HB.out.cell (World.block_lt_of_cell? w _ hw326_9)).trans hw326_9), ((HB.out.cell (World.block_lt_of_cell? w _ hw326_10)).trans hw326_10), ((HB.out.cell (World.block_lt_of_cell? w _ hw326_11)).trans hw326_11)⟩ (fun hHeld => ?_)
            clear hK K
            refine norm_ (a' := ?_) ?_ ?_
            rotate_left
            · show Act.put _ (some 18) _ = _
              simp only [Act.put, List.setIfInBounds_toArray, List.set_cons_zero, List.set_cons_succ, i64_w, i32_w]
              rfl
            refine done_ (by kernel_rfl) ?_
            try go_wp2
            go_roundg k1
            case measure => have := HK1.out; omega
            case rel => exact ⟨(wrap64 (x5_1 + 1)), (wrap64 (x6_1 + 1)), (by first | rfl | (simp; done) | (simp [*]; done)), (by first | rfl | (simp; done) | (simp [*]; done)), H', ⟨by have := HK1.out; omega⟩, ⟨by (with_reducible repeat (first | refine blk_drewN ?_ _ | refine blk_drew ?_ | refine blk_alloc ?_ _)); exact BK325.out⟩, ⟨by repeat (first | (with_reducible first | exact HB.out | apply below_alloc | apply pw_below_drewN | apply below_drew1 | refine below_set ?_ GE325.out) | exact HB.out)⟩⟩
          · replace c7 := Bool.eq_false_iff.mpr c7
            subst c7
            have H1 : (skirmishlaw48_count.l0 k1 l0 x5_1 (wrap64 (x6_1 + 1)) a1_0 a1_1 a1_2 a1_3 a1_4 a1_5 a1_6 a1_7 a1_8 a1_9 l1_10 a1_11) = some r := by rw [if_neg (show ¬ (false = true) by decide)] at H; exact H
            clear H
            have H := H1
            clear H1
            have H' := Aside0.mk H
            clear H
            try go_wp2
            have n0_ := Aside0.mk (blk_drew BK325.out)
            have n1_ := Aside0.mk (below_drew1 HB.out)
            clear BK325
            clear HB
            have BK325 := n0_
            have HB := n1_
            clear n0_ n1_
            have p326 : 0 ≤ (x6_1 : Int) := of_decide_eq_true (by first | (with_reducible assumption) | assumption)
            have q326 : x6_1 < (l0.length : Int) := of_decide_eq_true (by first | (with_reducible assumption) | assumption)
            obtain ⟨ad326, A326_10, c326_10, e326, hx326_0, hx326_1, hx326_2, hx326_3, hx326_4, hx326_5, hx326_6, hx326_7, hx326_8, hx326_9, hx326_10, hx326_11, hl326_10, hi326_10⟩ := at_T32 HR0.out x6_1 p326 q326
            have hw326_11 := hx326_11
            have hw326_10 := hx326_10
            have hw326_9 := hx326_9
            have hw326_8 := hx326_8
            have hw326_7 := hx326_7
            have hw326_6 := hx326_6
            have hw326_5 := hx326_5
            have hw326_4 := hx326_4
            have hw326_3 := hx326_3
            have hw326_2 := hx326_2
            have hw326_1 := hx326_1
            have hw326_0 := hx326_0
            cases e326
            replace hx326_0 := (HB.out.cell (World.block_lt_of_cell? w _ hx326_0)).trans hx326_0
            replace hx326_1 := (HB.out.cell (World.block_lt_of_cell? w _ hx326_1)).trans hx326_1
            replace hx326_2 := (HB.out.cell (World.block_lt_of_cell? w _ hx326_2)).trans hx326_2
            replace hx326_3 := (HB.out.cell (World.block_lt_of_cell? w _ hx326_3)).trans hx326_3
            replace hx326_4 := (HB.out.cell (World.block_lt_of_cell? w _ hx326_4)).trans hx326_4
            replace hx326_5 := (HB.out.cell (World.block_lt_of_cell? w _ hx326_5)).trans hx326_5
            replace hx326_6 := (HB.out.cell (World.block_lt_of_cell? w _ hx326_6)).trans hx326_6
            replace hx326_7 := (HB.out.cell (World.block_lt_of_cell? w _ hx326_7)).trans hx326_7
            replace hx326_8 := (HB.out.cell (World.block_lt_of_cell? w _ hx326_8)).trans hx326_8
            replace hx326_9 := (HB.out.cell (World.block_lt_of_cell? w _ hx326_9)).trans hx326_9
            replace hx326_10 := (HB.out.cell (World.block_lt_of_cell? w _ hx326_10)).trans hx326_10
            replace hx326_11 := (HB.out.cell (World.block_lt_of_cell? w _ hx326_11)).trans hx326_11
            have HR326_10 := Aside0.mk hi326_10
            have HC326_10 := Aside0.mk hl326_10
            clear hi326_10 hl326_10
            replace p326 := eq_true p326
            replace q326 := eq_true q326
            refine start_ (n := 6) (S := fun w' => w'.cell? ⟨gb325, 0, none⟩ = some (.int .i64 a1_0) ∧ w'.cell? ⟨gb325, 1, none⟩ = some (.int .i64 a1_1) ∧ w'.cell? ⟨gb325, 2, none⟩ = some (.int .i64 a1_2) ∧ w'.cell? ⟨gb325, 3, none⟩ = some (.int .i64 a1_3) ∧ w'.cell? ⟨gb325, 4, none⟩ = some (.int .i64 a1_4) ∧ w'.cell? ⟨gb325, 5, none⟩ = some (.int .i64 a1_5) ∧ w'.cell? ⟨gb325, 6, none⟩ = some (.int .u64 a1_6) ∧ w'.cell? ⟨gb325, 7, none⟩ = some (.int .i64 a1_7) ∧ w'.cell? ⟨gb325, 8, none⟩ = some (.int .i64 a1_8) ∧ w'.cell? ⟨gb325, 9, none⟩ = some (.int .i64 a1_9) ∧ w'.cell? ⟨gb325, 10, none⟩ = some (.slice A1_10 l1_10.length c1_10) ∧ w'.cell? ⟨gb325, 11, none⟩ = some (.string a1_11) ∧ w'.cell? (ad326.add ((x6_1).toNat * 12)) = some (.int .i64 ((rd_T32 l0 x6_1).f0)) ∧ w'.cell? ⟨(ad326.add ((x6_1).toNat * 12)).block, (ad326.add ((x6_1).toNat * 12)).off + 1, none⟩ = some (.int .i64 ((rd_T32 l0 x6_1).f1)) ∧ w'.cell? ⟨(ad326.add ((x6_1).toNat * 12)).block, (ad326.add ((x6_1).toNat * 12)).off + 2, none⟩ = some (.int .i64 ((rd_T32 l0 x6_1).f2)) ∧ w'.cell? ⟨(ad326.add ((x6_1).toNat * 12)).block, (ad326.add ((x6_1).toNat * 12)).off + 3, none⟩ = some (.int .i64 ((rd_T32 l0 x6_1).f3)) ∧ w'.cell? ⟨(ad326.add ((x6_1).toNat * 12)).block, (ad326.add ((x6_1).toNat * 12)).off + 4, none⟩ = some (.int .i64 ((rd_T32 l0 x6_1).f4)) ∧ w'.cell? ⟨(ad326.add ((x6_1).toNat * 12)).block, (ad326.add ((x6_1).toNat * 12)).off + 5, none⟩ = some (.int .i64 ((rd_T32 l0 x6_1).f5)) ∧ w'.cell? ⟨(ad326.add ((x6_1).toNat * 12)).block, (ad326.add ((x6_1).toNat * 12)).off + 6, none⟩ = some (.int .u64 ((rd_T32 l0 x6_1).f6)) ∧ w'.cell? ⟨(ad326.add ((x6_1).toNat * 12)).block, (ad326.add ((x6_1).toNat * 12)).off + 7, none⟩ = some (.int .i64 ((rd_T32 l0 x6_1).f7.f0)) ∧ w'.cell? ⟨(ad326.add ((x6_1).toNat * 12)).block, (ad326.add ((x6_1).toNat * 12)).off + 8, none⟩ = some (.int .i64 ((rd_T32 l0 x6_1).f7.f1)) ∧ w'.cell? ⟨(ad326.add ((x6_1).toNat * 12)).block, (ad326.add ((x6_1).toNat * 12)).off + 9, none⟩ = some (.int .i64 ((rd_T32 l0 x6_1).f7.f2)) ∧ w'.cell? ⟨(ad326.add ((x6_1).toNat * 12)).block, (ad326.add ((x6_1).toNat * 12)).off + 10, none⟩ = some (.slice A326_10 ((rd_T32 l0 x6_1).f7.f3).length c326_10) ∧ w'.cell? ⟨(ad326.add ((x6_1).toNat * 12)).block, (ad326.add ((x6_1).toNat * 12)).off + 11, none⟩ = some (.string ((rd_T32 l0 x6_1).f8))) (ds := []) #[false, false, false, false, false, false] (by kernel_rfl) rfl rfl ⟨(blk_cell BK325.out 0).trans rfl, (blk_cell BK325.out 1).trans rfl, (blk_cell BK325.out 2).trans rfl, (blk_cell BK325.out 3).trans rfl, (blk_cell BK325.out 4).trans rfl, (blk_cell BK325.out 5).trans rfl, (blk_cell BK325.out 6).trans rfl, (blk_cell BK325.out 7).trans rfl, (blk_cell BK325.out 8).trans rfl, (blk_cell BK325.out 9).trans rfl, (blk_cell BK325.out 10).trans rfl, (blk_cell BK325.out 11).trans rfl, ((HB.out.cell (World.block_lt_of_cell? w _ hw326_0)).trans hw326_0), ((HB.out.cell (World.block_lt_of_cell? w _ hw326_1)).trans hw326_1), ((HB.out.cell (World.block_lt_of_cell? w _ hw326_2)).trans hw326_2), ((HB.out.cell (World.block_lt_of_cell? w _ hw326_3)).trans hw326_3), ((HB.out.cell (World.block_lt_of_cell? w _ hw326_4)).trans hw326_4), ((HB.out.cell (World.block_lt_of_cell? w _ hw326_5)).trans hw326_5), ((HB.out.cell (World.block_lt_of_cell? w _ hw326_6)).trans hw326_6), ((HB.out.cell (World.block_lt_of_cell? w _ hw326_7)).trans hw326_7), ((HB.out.cell (World.block_lt_of_cell? w _ hw326_8)).trans hw326_8), ((HB.out.cell (World.block_lt_of_cell? w _ hw326_9)).trans hw326_9), ((HB.out.cell (World.block_lt_of_cell? w _ hw326_10)).trans hw326_10), ((HB.out.cell (World.block_lt_of_cell? w _ hw326_11)).trans hw326_11)⟩ (fun hHeld => ?_)
            generalize wr.drew = w10 at BK325 HB HR326_10 hx326_0 hx326_1 hx326_10 hx326_11 hx326_2 hx326_3 hx326_4 hx326_5 hx326_6 hx326_7 hx326_8 hx326_9 hHeld ⊢
            refine pure_ (i := 0) (N := some 13) (v := ?_) (a' := ?_) #[true, false, false, false, false, false] rfl rfl (by kernel_rfl) (fun _ _ _ h => h) (Or.inl ⟨by rfl, ?_⟩) ?_ ?_
            rotate_left
            · intro w'
              go_simp
              with_reducible rfl
            rotate_left
            · simp only [Act.put, List.setIfInBounds_toArray, List.set_cons_zero, List.set_cons_succ, i64_w, i32_w]
              rfl
            refine pure_ (i := 1) (N := some 14) (v := ?_) (a' := ?_) #[true, true, false, false, false, false] rfl rfl (by kernel_rfl) (fun _ _ _ h => h) (Or.inl ⟨by rfl, ?_⟩) ?_ ?_
            rotate_left
            · intro w'
              go_simp
              with_reducible rfl
            rotate_left
            · simp only [Act.put, List.setIfInBounds_toArray, List.set_cons_zero, List.set_cons_succ, i64_w, i32_w]
              rfl
            refine pure_ (i := 2) (N := some 15) (v := ?_) (a' := ?_) #[true, true, true, false, false, false] rfl rfl (by kernel_rfl) (fun _ _ _ h => h) (Or.inl ⟨by rfl, ?_⟩) ?_ ?_
            rotate_left
            · intro w'
              go_simp
              with_reducible rfl
            rotate_left
            · simp only [Act.put, List.setIfInBounds_toArray, List.set_cons_zero, List.set_cons_succ, i64_w, i32_w]
              rfl
            refine take_ (i := 3) (N := some 16) (v := ?_) (a' := ?_) #[true, true, true, true, false, false] rfl rfl (by kernel_rfl) (fun _ _ _ h => h) (Or.inl ⟨by rfl, ?_⟩) hHeld ?_ ?_
            rotate_left
            · rintro w' ⟨s0, s1, s2, s3, s4, s5, s6, s7, s8, s9, s10, s11, s12, s13, s14, s15, s16, s17, s18, s19, s20, s21, s22, s23⟩
              go_simp
              with_reducible rfl
            rotate_left
            · simp only [Act.put, List.setIfInBounds_toArray, List.set_cons_zero, List.set_cons_succ, i64_w, i32_w]
              rfl
            refine take_ (i := 4) (N := some 17) (v := ?_) (a' := ?_) #[true, true, true, true, true, false] rfl rfl (by kernel_rfl) (fun _ _ _ h => h) (Or.inl ⟨by rfl, ?_⟩) hHeld ?_ ?_
            rotate_left
            · rintro w' ⟨s0, s1, s2, s3, s4, s5, s6, s7, s8, s9, s10, s11, s12, s13, s14, s15, s16, s17, s18, s19, s20, s21, s22, s23⟩
              go_simp
              with_reducible rfl
            rotate_left
            · simp only [Act.put, List.setIfInBounds_toArray, List.set_cons_zero, List.set_cons_succ, i64_w, i32_w]
              rfl
            refine one_ (i := 5) (N := some 18) #[true, true, true, true, true, true] rfl rfl (by kernel_rfl) (by decide) (fun K hK => ?_)
            refine goes_ Try.func15 (by kernel_rfl) rfl #[.agg #[.int .i64 ((rd_T32 l0 x6_1).f0), .int .i64 ((rd_T32 l0 x6_1).f1), .int .i64 ((rd_T32 l0 x6_1).f2), .int .i64 ((rd_T32 l0 x6_1).f3), .int .i64 ((rd_T32 l0 x6_1).f4), .int .i64 ((rd_T32 l0 x6_1).f5), .int .u64 ((rd_T32 l0 x6_1).f6), .int .i64 ((rd_T32 l0 x6_1).f7.f0), .int .i64 ((rd_T32 l0 x6_1).f7.f1), .int .i64 ((rd_T32 l0 x6_1).f7.f2), .slice A326_10 ((rd_T32 l0 x6_1).f7.f3).length c326_10, .string ((rd_T32 l0 x6_1).f8)], .agg #[.int .i64 a1_0, .int .i64 a1_1, .int .i64 a1_2, .int .i64 a1_3, .int .i64 a1_4, .int .i64 a1_5, .int .u64 a1_6, .int .i64 a1_7, .int .i64 a1_8, .int .i64 a1_9, .slice A1_10 l1_10.length c1_10, .string a1_11]] (by rfl) rfl rfl (by (try simp only [List.map_toArray, List.map_cons, List.map_nil]); first | done | rfl | (simp only [List.length_drop, List.length_take]; rfl)) ?_
            with_reducible refine (skirmishref47_SamePacket.calls k1 ((rd_T32 l0 x6_1).f0) ((rd_T32 l0 x6_1).f1) ((rd_T32 l0 x6_1).f2) ((rd_T32 l0 x6_1).f3) ((rd_T32 l0 x6_1).f4) ((rd_T32 l0 x6_1).f5) ((rd_T32 l0 x6_1).f6) ((rd_T32 l0 x6_1).f7.f0) ((rd_T32 l0 x6_1).f7.f1) ((rd_T32 l0 x6_1).f7.f2) _ _ ((rd_T32 l0 x6_1).f7.f3) ((rd_T32 l0 x6_1).f8) a1_0 a1_1 a1_2 a1_3 a1_4 a1_5 a1_6 a1_7 a1_8 a1_9 _ _ l1_10 a1_11 false _ ?side1 ?side2 ?side3 ?side4 A6.out).mono ?_
            (case side1 => repeat (first | exact (Kd.C_below HR326_10.out HB.out) | (with_reducible refine Kd.C_alloc ?_ _) | (with_reducible refine Kd.C_drewN ?_ _) | (with_reducible refine Kd.C_drew ?_)))
            (case side2 => exact HC326_10.out)
            (case side3 => repeat (first | exact (Kd.C_below HR1_10.out HB.out) | (with_reducible refine Kd.C_alloc ?_ _) | (with_reducible refine Kd.C_drewN ?_ _) | (with_reducible refine Kd.C_drew ?_)))
            (case side4 => exact HC1_10.out)
            rintro e w11 ⟨rfl, hb⟩
            refine ⟨_, rfl, ?_⟩
            have n0_ := Aside0.mk (blk_below (g := gb325) (o := .cells #[.int .i64 a1_0, .int .i64 a1_1, .int .i64 a1_2, .int .i64 a1_3, .int .i64 a1_4, .int .i64 a1_5, .int .u64 a1_6, .int .i64 a1_7, .int .i64 a1_8, .int .i64 a1_9, .slice A1_10 l1_10.length c1_10, .string a1_11] 32 (0, 0)) (by (with_reducible repeat (first | refine blk_drewN ?_ _ | refine blk_drew ?_ | refine blk_alloc ?_ _)); exact BK325.out) hb)
            have n1_ := Aside0.mk (below_step (by repeat (first | (with_reducible first | exact HB.out | apply below_alloc | apply pw_below_drewN | apply below_drew1 | refine below_set ?_ GE325.out) | exact HB.out)) hb)
            clear BK325
            clear HB
            have BK325 := n0_
            have HB := n1_
            clear n0_ n1_
            (try clear hb)
            (try clear hb2)
            (try clear hk)
            (try clear hi)
            refine hK.out _ _ ⟨(blk_cell BK325.out 0).trans rfl, (blk_cell BK325.out 1).trans rfl, (blk_cell BK325.out 2).trans rfl, (blk_cell BK325.out 3).trans rfl, (blk_cell BK325.out 4).trans rfl, (blk_cell BK325.out 5).trans rfl, (blk_cell BK325.out 6).trans rfl, (blk_cell BK325.out 7).trans rfl, (blk_cell BK325.out 8).trans rfl, (blk_cell BK325.out 9).trans rfl, (blk_cell BK325.out 10).trans rfl, (blk_cell BK325.out 11).trans rfl, ((HB.out.cell (World.block_lt_of_cell? w _ hw326_0)).trans hw326_0), ((HB.out.cell (World.block_lt_of_cell? w _ hw326_1)).trans hw326_1), ((HB.out.cell (World.block_lt_of_cell? w _ hw326_2)).trans hw326_2), ((HB.out.cell (World.block_lt_of_cell? w _ hw326_3)).trans hw326_3), ((HB.out.cell (World.block_lt_of_cell? w _ hw326_4)).trans hw326_4), ((HB.out.cell (World.block_lt_of_cell? w _ hw326_5)).trans hw326_5), ((HB.out.cell (World.block_lt_of_cell? w _ hw326_6)).trans hw326_6), ((HB.out.cell (World.block_lt_of_cell? w _ hw326_7)).trans hw326_7), ((HB.out.cell (World.block_lt_of_cell? w _ hw326_8)).trans hw326_8), ((HB.out.cell (World.block_lt_of_cell? w _ hw326_9)).trans hw326_9), ((HB.out.cell (World.block_lt_of_cell? w _ hw326_10)).trans hw326_10), ((HB.out.cell (World.block_lt_of_cell? w _ hw326_11)).trans hw326_11)⟩ (fun hHeld => ?_)
            clear hK K
            refine norm_ (a' := ?_) ?_ ?_
            rotate_left
            · show Act.put _ (some 18) _ = _
              simp only [Act.put, List.setIfInBounds_toArray, List.set_cons_zero, List.set_cons_succ, i64_w, i32_w]
              rfl
            refine done_ (by kernel_rfl) ?_
            try go_wp2
            go_roundg k1
            case measure => have := HK1.out; omega
            case rel => exact ⟨(x5_1), (wrap64 (x6_1 + 1)), (by first | rfl | (simp; done) | (simp [*]; done)), (by first | rfl | (simp; done) | (simp [*]; done)), H', ⟨by have := HK1.out; omega⟩, ⟨by (with_reducible repeat (first | refine blk_drewN ?_ _ | refine blk_drew ?_ | refine blk_alloc ?_ _)); exact BK325.out⟩, ⟨by repeat (first | (with_reducible first | exact HB.out | apply below_alloc | apply pw_below_drewN | apply below_drew1 | refine below_set ?_ GE325.out) | exact HB.out)⟩⟩
        · rw [if_neg c5] at H
          exact absurd H (by simp)
      · rw [if_neg c4] at H
        have c4b0 : decide (x6_1 < (l0.length : Int)) = false := decide_eq_false c4
        clear c4
        obtain rfl := Option.some.inj H
        go_wp2
        go_ret
        exact ⟨by first | rfl | (simp [errW_none, errW_some] <;> rfl) | (simp [*, errW_none, errW_some] <;> rfl), by repeat (first | (with_reducible first | exact HB.out | apply below_alloc | apply pw_below_drewN | apply below_drew1 | refine below_set ?_ GE325.out) | exact HB.out)⟩

/-! ### skirmishlaw48_NetKeeps: function 6 -/
mutual
def skirmishlaw48_NetKeeps.l0 : Nat → List (S42) → List (S32) → List (S32) → List (S32) → Int → Option (Bool)
  | 0, _, _, _, _, _ => none
  | k + 1, x0, x3, x4, x5, x6 => if x6 < (x0.length : Int) then (if 0 ≤ x6 then (if (((rd_T42 x0 x6).f2).length : Int) > 20 then (skirmishlaw48_NetKeeps.j1 k x0 x3 x4 x5 x6 true ((rd_T42 x0 x6).f0) ((rd_T42 x0 x6).f1) ((rd_T42 x0 x6).f2)) else ((skirmishlaw48_huge.f k ((rd_T42 x0 x6).f2)).bind fun t331 => (skirmishlaw48_NetKeeps.j1 k x0 x3 x4 x5 x6 t331 ((rd_T42 x0 x6).f0) ((rd_T42 x0 x6).f1) ((rd_T42 x0 x6).f2)))) else (none)) else (skirmishlaw48_NetKeeps.l1 k x4 x5 0)
def skirmishlaw48_NetKeeps.j1 : Nat → List (S42) → List (S32) → List (S32) → List (S32) → Int → Bool → Int → Int → List (S32) → Option (Bool)
  | 0, _, _, _, _, _, _, _, _, _ => none
  | k + 1, x0, x3, x4, x5, x6, x38, x331000, x331001, x331002 => if x38 = true then ((skirmishlaw48_awake.f k).bind fun t332 => (some t332)) else (if x331000 = 1 then ((net_Push.f k x3 x331002).bind fun t333 => (if x4.length + x331002.length < 1172812402961 then (if (t333.length : Int) > 256 then (some false) else (skirmishlaw48_NetKeeps.l0 k x0 t333 (x4 ++ x331002) x5 (wrap64 (x6 + 1)))) else (none))) else (if x331000 = 2 then ((net_Deliver.f x3 x331001).bind fun bt339 => (if bt339.2.2.2.2.2.2.2.2.2.2.2.2.2 = 0 then (if x5.length < 1172812402961 then (if (bt339.2.2.2.2.2.2.2.2.2.2.2.2.1.length : Int) > 256 then (some false) else (skirmishlaw48_NetKeeps.l0 k x0 bt339.2.2.2.2.2.2.2.2.2.2.2.2.1 x4 (x5 ++ [(⟨bt339.1, bt339.2.1, bt339.2.2.1, bt339.2.2.2.1, bt339.2.2.2.2.1, bt339.2.2.2.2.2.1, bt339.2.2.2.2.2.2.1, (⟨bt339.2.2.2.2.2.2.2.1, bt339.2.2.2.2.2.2.2.2.1, bt339.2.2.2.2.2.2.2.2.2.1, bt339.2.2.2.2.2.2.2.2.2.2.1⟩ : S30), bt339.2.2.2.2.2.2.2.2.2.2.2.1⟩ : S32)]) (wrap64 (x6 + 1)))) else (none)) else (if (x3.length : Int) > 256 then (some false) else (skirmishlaw48_NetKeeps.l0 k x0 x3 x4 x5 (wrap64 (x6 + 1)))))) else (if x331000 = 3 then ((net_Drop.f x3 x331001).bind fun bt361 => (if bt361.2 = 0 then (if (bt361.1.length : Int) > 256 then (some false) else (skirmishlaw48_NetKeeps.l0 k x0 bt361.1 x4 x5 (wrap64 (x6 + 1)))) else (if (x3.length : Int) > 256 then (some false) else (skirmishlaw48_NetKeeps.l0 k x0 x3 x4 x5 (wrap64 (x6 + 1)))))) else (if x331000 = 4 then ((net_Duplicate.f x3 x331001).bind fun bt365 => (if bt365.2 = 0 then (if x331001 < 0 then (skirmishlaw48_NetKeeps.j2 k x0 x3 x4 x5 x6 bt365.1 bt365.2 true x331000 x331001 x331002) else (skirmishlaw48_NetKeeps.j2 k x0 x3 x4 x5 x6 bt365.1 bt365.2 (decide (x331001 ≥ (x3.length : Int))) x331000 x331001 x331002)) else (skirmishlaw48_NetKeeps.j2 k x0 x3 x4 x5 x6 bt365.1 bt365.2 false x331000 x331001 x331002))) else (if (x3.length : Int) > 256 then (some false) else (skirmishlaw48_NetKeeps.l0 k x0 x3 x4 x5 (wrap64 (x6 + 1))))))))
def skirmishlaw48_NetKeeps.j2 : Nat → List (S42) → List (S32) → List (S32) → List (S32) → Int → List (S32) → Int → Bool → Int → Int → List (S32) → Option (Bool)
  | 0, _, _, _, _, _, _, _, _, _, _, _ => none
  | k + 1, x0, x3, x4, x5, x6, x13, x14, x103, x331000, x331001, x331002 => if x103 = true then (some false) else (if x14 = 0 then (if 0 ≤ x331001 then (if x331001 < (x3.length : Int) then (if x4.length < 1172812402961 then (if (x13.length : Int) > 256 then (some false) else (skirmishlaw48_NetKeeps.l0 k x0 x13 (x4 ++ [(⟨(rd_T32 x3 x331001).f0, (rd_T32 x3 x331001).f1, (rd_T32 x3 x331001).f2, (rd_T32 x3 x331001).f3, (rd_T32 x3 x331001).f4, (rd_T32 x3 x331001).f5, (rd_T32 x3 x331001).f6, (⟨(rd_T32 x3 x331001).f7.f0, (rd_T32 x3 x331001).f7.f1, (rd_T32 x3 x331001).f7.f2, (rd_T32 x3 x331001).f7.f3⟩ : S30), (rd_T32 x3 x331001).f8⟩ : S32)]) x5 (wrap64 (x6 + 1)))) else (none)) else (none)) else (none)) else (if (x3.length : Int) > 256 then (some false) else (skirmishlaw48_NetKeeps.l0 k x0 x3 x4 x5 (wrap64 (x6 + 1)))))
def skirmishlaw48_NetKeeps.l1 : Nat → List (S32) → List (S32) → Int → Option (Bool)
  | 0, _, _, _ => none
  | k + 1, x4, x5, x15 => if x15 < (x5.length : Int) then (if 0 ≤ x15 then ((skirmishlaw48_count.f k x5 ((rd_T32 x5 x15).f0) ((rd_T32 x5 x15).f1) ((rd_T32 x5 x15).f2) ((rd_T32 x5 x15).f3) ((rd_T32 x5 x15).f4) ((rd_T32 x5 x15).f5) ((rd_T32 x5 x15).f6) ((rd_T32 x5 x15).f7.f0) ((rd_T32 x5 x15).f7.f1) ((rd_T32 x5 x15).f7.f2) ((rd_T32 x5 x15).f7.f3) ((rd_T32 x5 x15).f8)).bind fun t375 => ((skirmishlaw48_count.f k x4 ((rd_T32 x5 x15).f0) ((rd_T32 x5 x15).f1) ((rd_T32 x5 x15).f2) ((rd_T32 x5 x15).f3) ((rd_T32 x5 x15).f4) ((rd_T32 x5 x15).f5) ((rd_T32 x5 x15).f6) ((rd_T32 x5 x15).f7.f0) ((rd_T32 x5 x15).f7.f1) ((rd_T32 x5 x15).f7.f2) ((rd_T32 x5 x15).f7.f3) ((rd_T32 x5 x15).f8)).bind fun t377 => (if t375 > t377 then (some false) else (skirmishlaw48_NetKeeps.l1 k x4 x5 (wrap64 (x15 + 1)))))) else (none)) else ((skirmishlaw48_awake.f k).bind fun t373 => (some t373))
end
def skirmishlaw48_NetKeeps.f (k : Nat) (l0 : List (S42)) : Option (Bool) := if (l0.length : Int) > 60 then ((skirmishlaw48_awake.f k).bind fun t328 => (some t328)) else (skirmishlaw48_NetKeeps.l0 k l0 ([] : List (S32)) ([] : List (S32)) ([] : List (S32)) 0)
theorem skirmishlaw48_NetKeeps.mono_l : ∀ k, (∀ y0 y1 y2 y3 y4, LeO (skirmishlaw48_NetKeeps.l0 k y0 y1 y2 y3 y4) (skirmishlaw48_NetKeeps.l0 (k + 1) y0 y1 y2 y3 y4)) ∧ (∀ y0 y1 y2 y3 y4 y5 y6 y7 y8, LeO (skirmishlaw48_NetKeeps.j1 k y0 y1 y2 y3 y4 y5 y6 y7 y8) (skirmishlaw48_NetKeeps.j1 (k + 1) y0 y1 y2 y3 y4 y5 y6 y7 y8)) ∧ (∀ y0 y1 y2 y3 y4 y5 y6 y7 y8 y9 y10, LeO (skirmishlaw48_NetKeeps.j2 k y0 y1 y2 y3 y4 y5 y6 y7 y8 y9 y10) (skirmishlaw48_NetKeeps.j2 (k + 1) y0 y1 y2 y3 y4 y5 y6 y7 y8 y9 y10)) ∧ (∀ y0 y1 y2, LeO (skirmishlaw48_NetKeeps.l1 k y0 y1 y2) (skirmishlaw48_NetKeeps.l1 (k + 1) y0 y1 y2))
  | 0 => ⟨fun _ _ _ _ _ r h => by simp [skirmishlaw48_NetKeeps.l0] at h, fun _ _ _ _ _ _ _ _ _ r h => by simp [skirmishlaw48_NetKeeps.j1] at h, fun _ _ _ _ _ _ _ _ _ _ _ r h => by simp [skirmishlaw48_NetKeeps.j2] at h, fun _ _ _ r h => by simp [skirmishlaw48_NetKeeps.l1] at h⟩
  | k + 1 => by
    obtain ⟨ih0, ih1, ih2, ih3⟩ := skirmishlaw48_NetKeeps.mono_l k
    refine ⟨?_, ?_, ?_, ?_⟩
    · intro y0 y1 y2 y3 y4
      unfold skirmishlaw48_NetKeeps.l0
      repeat' first
      | (with_reducible exact ih0 _ _ _ _ _)
      | (with_reducible exact ih1 _ _ _ _ _ _ _ _ _)
      | (with_reducible exact ih2 _ _ _ _ _ _ _ _ _ _ _)
      | (with_reducible exact ih3 _ _ _)
      | (with_reducible exact net_Push.mono _ _ _)
      | (with_reducible exact skirmishlaw48_awake.mono _)
      | (with_reducible exact skirmishlaw48_count.mono _ _ _ _ _ _ _ _ _ _ _ _ _ _)
      | (with_reducible exact skirmishlaw48_huge.mono _ _)
      | (with_reducible exact LeO.refl _)
      | (with_reducible exact LeO.none _)
      | (with_reducible refine LeO.ite ?_ ?_)
      | (with_reducible refine LeO.bind ?_ (fun _ => ?_))
      | exact ih0 _ _ _ _ _
      | exact ih1 _ _ _ _ _ _ _ _ _
      | exact ih2 _ _ _ _ _ _ _ _ _ _ _
      | exact ih3 _ _ _
      | exact net_Push.mono _ _ _
      | exact skirmishlaw48_awake.mono _
      | exact skirmishlaw48_count.mono _ _ _ _ _ _ _ _ _ _ _ _ _ _
      | exact skirmishlaw48_huge.mono _ _
      | exact LeO.none _
      | refine LeO.ite ?_ ?_
      | refine LeO.bind ?_ (fun _ => ?_)
    · intro y0 y1 y2 y3 y4 y5 y6 y7 y8
      unfold skirmishlaw48_NetKeeps.j1
      repeat' first
      | (with_reducible exact ih0 _ _ _ _ _)
      | (with_reducible exact ih1 _ _ _ _ _ _ _ _ _)
      | (with_reducible exact ih2 _ _ _ _ _ _ _ _ _ _ _)
      | (with_reducible exact ih3 _ _ _)
      | (with_reducible exact net_Push.mono _ _ _)
      | (with_reducible exact skirmishlaw48_awake.mono _)
      | (with_reducible exact skirmishlaw48_count.mono _ _ _ _ _ _ _ _ _ _ _ _ _ _)
      | (with_reducible exact skirmishlaw48_huge.mono _ _)
      | (with_reducible exact LeO.refl _)
      | (with_reducible exact LeO.none _)
      | (with_reducible refine LeO.ite ?_ ?_)
      | (with_reducible refine LeO.bind ?_ (fun _ => ?_))
      | exact ih0 _ _ _ _ _
      | exact ih1 _ _ _ _ _ _ _ _ _
      | exact ih2 _ _ _ _ _ _ _ _ _ _ _
      | exact ih3 _ _ _
      | exact net_Push.mono _ _ _
      | exact skirmishlaw48_awake.mono _
      | exact skirmishlaw48_count.mono _ _ _ _ _ _ _ _ _ _ _ _ _ _
      | exact skirmishlaw48_huge.mono _ _
      | exact LeO.none _
      | refine LeO.ite ?_ ?_
      | refine LeO.bind ?_ (fun _ => ?_)
    · intro y0 y1 y2 y3 y4 y5 y6 y7 y8 y9 y10
      unfold skirmishlaw48_NetKeeps.j2
      repeat' first
      | (with_reducible exact ih0 _ _ _ _ _)
      | (with_reducible exact ih1 _ _ _ _ _ _ _ _ _)
      | (with_reducible exact ih2 _ _ _ _ _ _ _ _ _ _ _)
      | (with_reducible exact ih3 _ _ _)
      | (with_reducible exact net_Push.mono _ _ _)
      | (with_reducible exact skirmishlaw48_awake.mono _)
      | (with_reducible exact skirmishlaw48_count.mono _ _ _ _ _ _ _ _ _ _ _ _ _ _)
      | (with_reducible exact skirmishlaw48_huge.mono _ _)
      | (with_reducible exact LeO.refl _)
      | (with_reducible exact LeO.none _)
      | (with_reducible refine LeO.ite ?_ ?_)
      | (with_reducible refine LeO.bind ?_ (fun _ => ?_))
      | exact ih0 _ _ _ _ _
      | exact ih1 _ _ _ _ _ _ _ _ _
      | exact ih2 _ _ _ _ _ _ _ _ _ _ _
      | exact ih3 _ _ _
      | exact net_Push.mono _ _ _
      | exact skirmishlaw48_awake.mono _
      | exact skirmishlaw48_count.mono _ _ _ _ _ _ _ _ _ _ _ _ _ _
      | exact skirmishlaw48_huge.mono _ _
      | exact LeO.none _
      | refine LeO.ite ?_ ?_
      | refine LeO.bind ?_ (fun _ => ?_)
    · intro y0 y1 y2
      unfold skirmishlaw48_NetKeeps.l1
      repeat' first
      | (with_reducible exact ih0 _ _ _ _ _)
      | (with_reducible exact ih1 _ _ _ _ _ _ _ _ _)
      | (with_reducible exact ih2 _ _ _ _ _ _ _ _ _ _ _)
      | (with_reducible exact ih3 _ _ _)
      | (with_reducible exact net_Push.mono _ _ _)
      | (with_reducible exact skirmishlaw48_awake.mono _)
      | (with_reducible exact skirmishlaw48_count.mono _ _ _ _ _ _ _ _ _ _ _ _ _ _)
      | (with_reducible exact skirmishlaw48_huge.mono _ _)
      | (with_reducible exact LeO.refl _)
      | (with_reducible exact LeO.none _)
      | (with_reducible refine LeO.ite ?_ ?_)
      | (with_reducible refine LeO.bind ?_ (fun _ => ?_))
      | exact ih0 _ _ _ _ _
      | exact ih1 _ _ _ _ _ _ _ _ _
      | exact ih2 _ _ _ _ _ _ _ _ _ _ _
      | exact ih3 _ _ _
      | exact net_Push.mono _ _ _
      | exact skirmishlaw48_awake.mono _
      | exact skirmishlaw48_count.mono _ _ _ _ _ _ _ _ _ _ _ _ _ _
      | exact skirmishlaw48_huge.mono _ _
      | exact LeO.none _
      | refine LeO.ite ?_ ?_
      | refine LeO.bind ?_ (fun _ => ?_)
theorem skirmishlaw48_NetKeeps.mono : ∀ a0 k, LeO (skirmishlaw48_NetKeeps.f k a0) (skirmishlaw48_NetKeeps.f (k + 1) a0) := by
  intro a0 k
  obtain ⟨ih0, ih1, ih2, ih3⟩ := skirmishlaw48_NetKeeps.mono_l k
  unfold skirmishlaw48_NetKeeps.f
  repeat' first
      | (with_reducible exact ih0 _ _ _ _ _)
      | (with_reducible exact ih1 _ _ _ _ _ _ _ _ _)
      | (with_reducible exact ih2 _ _ _ _ _ _ _ _ _ _ _)
      | (with_reducible exact ih3 _ _ _)
      | (with_reducible exact net_Push.mono _ _ _)
      | (with_reducible exact skirmishlaw48_awake.mono _)
      | (with_reducible exact skirmishlaw48_count.mono _ _ _ _ _ _ _ _ _ _ _ _ _ _)
      | (with_reducible exact skirmishlaw48_huge.mono _ _)
      | (with_reducible exact LeO.refl _)
      | (with_reducible exact LeO.none _)
      | (with_reducible refine LeO.ite ?_ ?_)
      | (with_reducible refine LeO.bind ?_ (fun _ => ?_))
      | exact ih0 _ _ _ _ _
      | exact ih1 _ _ _ _ _ _ _ _ _
      | exact ih2 _ _ _ _ _ _ _ _ _ _ _
      | exact ih3 _ _ _
      | exact net_Push.mono _ _ _
      | exact skirmishlaw48_awake.mono _
      | exact skirmishlaw48_count.mono _ _ _ _ _ _ _ _ _ _ _ _ _ _
      | exact skirmishlaw48_huge.mono _ _
      | exact LeO.none _
      | refine LeO.ite ?_ ?_
      | refine LeO.bind ?_ (fun _ => ?_)
def skirmishlaw48_NetKeeps.T35 : Bool × List (List Nat × List Nat) := (true, [([], []), ([], []), ([], []), ([1, 2], [1, 2]), ([3], [3]), ([0, 4], [0, 4]), ([], []), ([], []), ([], []), ([7, 8], [7, 8]), ([9], [9]), ([6, 10, 5], [6, 10]), ([5, 11], [5, 11])])
def skirmishlaw48_NetKeeps.B35 : List Nat := [0, 0, 0, 6, 14, 31, 0, 0, 0, 384, 896, 2047, 4095]
theorem skirmishlaw48_NetKeeps.tab35 : rtab .any (opsOf Try.f6 35) = skirmishlaw48_NetKeeps.T35 := by kernel_rfl
theorem skirmishlaw48_NetKeeps.bits35 : waitsOk skirmishlaw48_NetKeeps.T35.2 skirmishlaw48_NetKeeps.B35 = true := by kernel_rfl
set_option maxHeartbeats 8000000 in
set_option maxRecDepth 100000 in
theorem skirmishlaw48_NetKeeps.calls (k : Nat) (A0 : Option Addr) (c0 : Nat) (l0 : List (S42)) (r : Bool) (hr : r = true) (w : World) (hr0 : Kd.C k42 w A0 l0.length l0) (hc0 : l0.length ≤ c0) (h : skirmishlaw48_NetKeeps.f k l0 = some r) :
    Calls Try.prog 6 #[.slice A0 l0.length c0] w fun e w' => e = .returned (.bool r) ∧ Below w.heap.size w w' := by
  have Hr := Aside0.mk hr
  clear hr
  have hu42 := Try.underlying42
  have hu32 := Try.underlying32
  have HR0 := Aside0.mk hr0
  have HC0 := Aside0.mk hc0
  clear hr0 hc0
  have HB := Aside0.mk (Below.refl w.heap.size w)
  have H : (if (l0.length : Int) > 60 then ((skirmishlaw48_awake.f k).bind fun t328 => (some t328)) else (skirmishlaw48_NetKeeps.l0 k l0 ([] : List (S32)) ([] : List (S32)) ([] : List (S32)) 0)) = some r := h
  clear h
  by_cases c2 : (l0.length : Int) > 60
  · rw [if_pos c2] at H
    have c2b0 : decide (60 < (l0.length : Int)) = true := decide_eq_true c2
    have c2b1 : decide (60 < l0.length) = true := decide_eq_true (by omega)
    clear c2
    replace H := Option.bind_eq_some_iff.mp H
    obtain ⟨t328, A30, H⟩ := H
    replace H : (some t328) = some r := H
    have A3 := Aside0.mk A30
    clear A30
    obtain rfl := Option.some.inj H
    go_enter Try.func6, Try.ntmps6
    go_wp2_with (first | ((with_reducible refine gate_callee (f := 8) rfl ?_); refine goesL_ (some 19) rfl rfl Try.func8 (by kernel_rfl) rfl #[] rfl (by (try simp only [List.map_toArray, List.map_cons, List.map_nil]); first | done | rfl | (simp only [List.length_drop, List.length_take]; rfl)) ?_; (with_reducible refine (skirmishlaw48_awake.calls k t328 Hr.out _ A3.out).mono ?_); rintro e w4 ⟨rfl, hb⟩; refine ⟨_, rfl, ?_⟩; have n0_ := Aside0.mk (below_step (by repeat (first | (with_reducible first | exact HB.out | apply below_alloc | apply pw_below_drewN | apply below_drew1) | exact HB.out)) hb); clear HB; have HB := n0_; clear n0_; (try clear hb); (try clear hb2); (try clear hk); (try clear hi)))
    go_ret
    exact ⟨by first | rfl | (simp [errW_none, errW_some] <;> rfl) | (simp [*, errW_none, errW_some] <;> rfl), by repeat (first | (with_reducible first | exact HB.out | apply below_alloc | apply pw_below_drewN | apply below_drew1) | exact HB.out)⟩
  · rw [if_neg c2] at H
    have c2b0 : decide (60 < (l0.length : Int)) = false := decide_eq_false c2
    have c2b1 : decide (60 < l0.length) = false := decide_eq_false (by omega)
    clear c2
    have H' := Aside0.mk H
    clear H
    go_enter Try.func6, Try.ntmps6
    go_wp2
    go_loopg [3, 4, 5, 6] k (fun kq v3 v4 v5 v6 w' => ∃ (x3_1 : List (S32)) (x4_1 : List (S32)) (x5_1 : List (S32)) (x6_1 : Int), v6 = .int .i64 x6_1 ∧ Aside0 (skirmishlaw48_NetKeeps.l0 kq l0 x3_1 x4_1 x5_1 x6_1 = some r) ∧ Aside0 (kq ≤ k) ∧ Aside0 (Kd.N k32 32 w' w.heap.size (fun k_ => some k_ ≠ (v4 : Value).ownBlock ∧ some k_ ≠ (v5 : Value).ownBlock) v3 x3_1) ∧ Aside0 (Kd.N k32 32 w' w.heap.size (fun k_ => some k_ ≠ (v3 : Value).ownBlock ∧ some k_ ≠ (v5 : Value).ownBlock) v4 x4_1) ∧ Aside0 (Kd.N k32 32 w' w.heap.size (fun k_ => some k_ ≠ (v3 : Value).ownBlock ∧ some k_ ≠ (v4 : Value).ownBlock) v5 x5_1) ∧ Aside0 (Below w.heap.size w w'))
    case atStart => exact ⟨(([] : List (S32))), (([] : List (S32))), (([] : List (S32))), (0), (by first | rfl | (simp; done) | (simp [*]; done)), H', ⟨Nat.le_refl _⟩, ⟨by first | exact Kd.R_nil _ _ _ _ _ | exact Kd.N_nil _ _ _ _ _ | exact Kd.V_nil _ _ _ _ _ | exact Kd.Q_nil _ _ _ _ _ | exact Kd.S_nil _ _ _ _ _⟩, ⟨by first | exact Kd.R_nil _ _ _ _ _ | exact Kd.N_nil _ _ _ _ _ | exact Kd.V_nil _ _ _ _ _ | exact Kd.Q_nil _ _ _ _ _ | exact Kd.S_nil _ _ _ _ _⟩, ⟨by first | exact Kd.R_nil _ _ _ _ _ | exact Kd.N_nil _ _ _ _ _ | exact Kd.V_nil _ _ _ _ _ | exact Kd.Q_nil _ _ _ _ _ | exact Kd.S_nil _ _ _ _ _⟩, ⟨by repeat (first | (with_reducible first | exact HB.out | apply below_alloc | apply pw_below_drewN | apply below_drew1) | exact HB.out)⟩⟩
    case round =>
      clear H'
      try clear c2
      try clear c2b0
      try clear c2b1
      try clear p2
      obtain ⟨x3_1, x4_1, x5_1, x6_1, rfl, HA, HK1, HO_3, HO_4, HO_5, HB⟩ := hrel
      cases gk with
      | zero => exact absurd HA.out (by simp [skirmishlaw48_NetKeeps.l0])
      | succ k1 =>
        have H := HA.out
        clear HA
        simp only [skirmishlaw48_NetKeeps.l0] at H
        by_cases c5 : x6_1 < (l0.length : Int)
        · rw [if_pos c5] at H
          have c5b0 : decide (x6_1 < (l0.length : Int)) = true := decide_eq_true c5
          clear c5
          by_cases c6 : 0 ≤ x6_1
          · rw [if_pos c6] at H
            have c6b0 : decide (0 ≤ x6_1) = true := decide_eq_true c6
            clear c6
            have HC7 := Aside0.mk H
            clear H
            have p329 : 0 ≤ (x6_1 : Int) := of_decide_eq_true (by first | (with_reducible assumption) | assumption)
            have q329 : x6_1 < (l0.length : Int) := of_decide_eq_true (by first | (with_reducible assumption) | assumption)
            obtain ⟨ad329, A329_2, c329_2, e329, hx329_0, hx329_1, hx329_2, hl329_2, hi329_2⟩ := at_T42 HR0.out x6_1 p329 q329
            cases e329
            replace hx329_0 := (HB.out.cell (World.block_lt_of_cell? w _ hx329_0)).trans hx329_0
            replace hx329_1 := (HB.out.cell (World.block_lt_of_cell? w _ hx329_1)).trans hx329_1
            replace hx329_2 := (HB.out.cell (World.block_lt_of_cell? w _ hx329_2)).trans hx329_2
            have HR329_2 := Aside0.mk hi329_2
            have HC329_2 := Aside0.mk hl329_2
            clear hi329_2 hl329_2
            replace p329 := eq_true p329
            replace q329 := eq_true q329
            go_upto_region 8 with (first | ((with_reducible refine gate_dst (N := 7) rfl ?_); (try (refine gate_guard (by rfl) ?_; dsimp only)); refine box_event ?hg (N := 7) ?hd (cs := #[.int .i64 0, .int .i64 0, .slice none 0 0]) (t := 42) ?hr ?_; (case hd => rfl); (case hg => rfl); (case hr => first | (go_simp; done) | (go_simp; rfl)); intro gb330 hg w8 hbox hb; have n0_ := Aside0.mk (Kd.N_below (Kd.N_elderB (by (with_reducible repeat (first | apply Kd.N_alloc | apply Kd.N_drewN | apply Kd.N_drew)); exact HO_3.out) gb330 (Nat.le_of_eq hg.symm)) hb); have n1_ := Aside0.mk (Kd.N_below (Kd.N_elderB (by (with_reducible repeat (first | apply Kd.N_alloc | apply Kd.N_drewN | apply Kd.N_drew)); exact HO_4.out) gb330 (Nat.le_of_eq hg.symm)) hb); have n2_ := Aside0.mk (Kd.N_below (Kd.N_elderB (by (with_reducible repeat (first | apply Kd.N_alloc | apply Kd.N_drewN | apply Kd.N_drew)); exact HO_5.out) gb330 (Nat.le_of_eq hg.symm)) hb); have n3_ := Aside0.mk (below_step (by repeat (first | (with_reducible first | exact HB.out | apply below_alloc | apply pw_below_drewN | apply below_drew1) | exact HB.out)) hb); have n4_ := Aside0.mk (hbox); have n5_ := Aside0.mk ((by rw [hg]; exact (below_size (by repeat (first | (with_reducible first | exact HB.out | apply below_alloc | apply pw_below_drewN | apply below_drew1) | exact HB.out))) : w.heap.size ≤ gb330)); have n6_ := Aside0.mk ((by rw [hg]; exact (below_size (by repeat (first | (with_reducible first | exact HB.out | apply below_alloc | apply pw_below_drewN | apply below_drew1) | exact HB.out))) : w.heap.size ≤ gb330)); clear HO_3; clear HO_4; clear HO_5; clear HB; have HO_3 := n0_; have HO_4 := n1_; have HO_5 := n2_; have HB := n3_; have BK330 := n4_; have GW330 := n5_; have GE330 := n6_; clear n0_ n1_ n2_ n3_ n4_ n5_ n6_; clear hb hbox hg; have hcz9_0 : w8.cell? ⟨gb330, 0, none⟩ = some (.int .i64 0) := (blk_cell BK330.out 0).trans rfl; have hcz9_1 : w8.cell? ⟨gb330, 1, none⟩ = some (.int .i64 0) := (blk_cell BK330.out 1).trans rfl; have hcz9_2 : w8.cell? ⟨gb330, 2, none⟩ = some (.slice none 0 0) := (blk_cell BK330.out 2).trans rfl; have hfz9_0 := blk_frozen BK330.out 0; have hfz9_1 := blk_frozen BK330.out 1; have hfz9_2 := blk_frozen BK330.out 2))
            (try simp only [Act.put, List.setIfInBounds_toArray, List.set_cons_zero, List.set_cons_succ])
            go_cut [38] (fun v38 wc => ∃ (kq : Nat) (x38_6 : Bool), v38 = .bool x38_6 ∧ Aside0 (skirmishlaw48_NetKeeps.j1 kq l0 x3_1 x4_1 x5_1 x6_1 x38_6 ((rd_T42 l0 x6_1).f0) ((rd_T42 l0 x6_1).f1) ((rd_T42 l0 x6_1).f2) = some r) ∧ Aside0 (kq ≤ k1) ∧ Aside0 (Kd.N k32 32 wc w.heap.size (fun k_ => some k_ ≠ (u4 : Value).ownBlock ∧ some k_ ≠ (u5 : Value).ownBlock ∧ k_ ≠ gb330) u3 x3_1) ∧ Aside0 (Kd.N k32 32 wc w.heap.size (fun k_ => some k_ ≠ (u3 : Value).ownBlock ∧ some k_ ≠ (u5 : Value).ownBlock ∧ k_ ≠ gb330) u4 x4_1) ∧ Aside0 (Kd.N k32 32 wc w.heap.size (fun k_ => some k_ ≠ (u3 : Value).ownBlock ∧ some k_ ≠ (u4 : Value).ownBlock ∧ k_ ≠ gb330) u5 x5_1) ∧ Aside0 (wc.heap[gb330]? = some (.cells #[.int .i64 ((rd_T42 l0 x6_1).f0), .int .i64 ((rd_T42 l0 x6_1).f1), (.slice A329_2 ((rd_T42 l0 x6_1).f2).length c329_2)] 42 (0, 0))) ∧ Aside0 (Below w.heap.size w wc))
            case first =>
              have H := HC7.out
              clear HC7
              by_cases c10 : (((rd_T42 l0 x6_1).f2).length : Int) > 20
              · rw [if_pos c10] at H
                have c10b0 : decide (20 < (((rd_T42 l0 x6_1).f2).length : Int)) = true := decide_eq_true c10
                have c10b1 : decide (20 < ((rd_T42 l0 x6_1).f2).length) = true := decide_eq_true (by omega)
                clear c10
                (first | rw [c10b0] | (simp only [i64_w, i32_w]; rw [c10b0]) | skip)
                have H' := Aside0.mk H
                clear H
                have hcz11_0 : w8.cell? ⟨gb330, 0, none⟩ = some (.int .i64 0) := (blk_cell BK330.out 0).trans rfl
                have hcz11_1 : w8.cell? ⟨gb330, 1, none⟩ = some (.int .i64 0) := (blk_cell BK330.out 1).trans rfl
                have hcz11_2 : w8.cell? ⟨gb330, 2, none⟩ = some (.slice none 0 0) := (blk_cell BK330.out 2).trans rfl
                have hfz11_0 := blk_frozen BK330.out 0
                have hfz11_1 := blk_frozen BK330.out 1
                have hfz11_2 := blk_frozen BK330.out 2
                go_wp2
                go_meet
                case rel => exact ⟨_, (true), (by first | rfl | (simp; done) | (simp [*]; done)), H', ⟨by have := HK1.out; first | omega | exact Nat.le_refl _⟩, ⟨by (with_reducible repeat (first | apply Kd.N_alloc | apply Kd.N_drewN | apply Kd.N_drew)); exact Kd.N_mono (Kd.N_far (p := ⟨gb330, 2, none⟩) (Kd.N_far (p := ⟨gb330, 1, none⟩) (Kd.N_far (p := ⟨gb330, 0, none⟩) (Kd.N_mono HO_3.out (fun k_ hk => (⟨hk, hk.2⟩ : _ ∧ k_ ≠ gb330))) (fun _ hk => hk.2) (.int .i64 ((rd_T42 l0 x6_1).f0))) (fun _ hk => hk.2) (.int .i64 ((rd_T42 l0 x6_1).f1))) (fun _ hk => hk.2) (.slice A329_2 ((rd_T42 l0 x6_1).f2).length c329_2)) (fun _ hk => ⟨hk.1.1.1, ⟨hk.1.1.2, hk.1.2⟩⟩)⟩, ⟨by (with_reducible repeat (first | apply Kd.N_alloc | apply Kd.N_drewN | apply Kd.N_drew)); exact Kd.N_mono (Kd.N_far (p := ⟨gb330, 2, none⟩) (Kd.N_far (p := ⟨gb330, 1, none⟩) (Kd.N_far (p := ⟨gb330, 0, none⟩) (Kd.N_mono HO_4.out (fun k_ hk => (⟨hk, hk.2⟩ : _ ∧ k_ ≠ gb330))) (fun _ hk => hk.2) (.int .i64 ((rd_T42 l0 x6_1).f0))) (fun _ hk => hk.2) (.int .i64 ((rd_T42 l0 x6_1).f1))) (fun _ hk => hk.2) (.slice A329_2 ((rd_T42 l0 x6_1).f2).length c329_2)) (fun _ hk => ⟨hk.1.1.1, ⟨hk.1.1.2, hk.1.2⟩⟩)⟩, ⟨by (with_reducible repeat (first | apply Kd.N_alloc | apply Kd.N_drewN | apply Kd.N_drew)); exact Kd.N_mono (Kd.N_far (p := ⟨gb330, 2, none⟩) (Kd.N_far (p := ⟨gb330, 1, none⟩) (Kd.N_far (p := ⟨gb330, 0, none⟩) (Kd.N_mono HO_5.out (fun k_ hk => (⟨hk, hk.2⟩ : _ ∧ k_ ≠ gb330))) (fun _ hk => hk.2) (.int .i64 ((rd_T42 l0 x6_1).f0))) (fun _ hk => hk.2) (.int .i64 ((rd_T42 l0 x6_1).f1))) (fun _ hk => hk.2) (.slice A329_2 ((rd_T42 l0 x6_1).f2).length c329_2)) (fun _ hk => ⟨hk.1.1.1, ⟨hk.1.1.2, hk.1.2⟩⟩)⟩, ⟨by (with_reducible repeat (first | refine blk_drewN ?_ _ | refine blk_drew ?_ | refine blk_alloc ?_ _)); refine blk_put (cs := #[.int .i64 ((rd_T42 l0 x6_1).f0), .int .i64 ((rd_T42 l0 x6_1).f1), .slice none 0 0]) ?_ 2 _ rfl; (with_reducible repeat (first | refine blk_drewN ?_ _ | refine blk_drew ?_ | refine blk_alloc ?_ _)); refine blk_put (cs := #[.int .i64 ((rd_T42 l0 x6_1).f0), .int .i64 0, .slice none 0 0]) ?_ 1 _ rfl; (with_reducible repeat (first | refine blk_drewN ?_ _ | refine blk_drew ?_ | refine blk_alloc ?_ _)); refine blk_put (cs := #[.int .i64 0, .int .i64 0, .slice none 0 0]) ?_ 0 _ rfl; (with_reducible repeat (first | refine blk_drewN ?_ _ | refine blk_drew ?_ | refine blk_alloc ?_ _)); exact BK330.out⟩, ⟨by repeat (first | (with_reducible first | exact HB.out | apply below_alloc | apply pw_below_drewN | apply below_drew1 | refine below_set ?_ GE330.out) | exact HB.out)⟩⟩
              · rw [if_neg c10] at H
                have c10b0 : decide (20 < (((rd_T42 l0 x6_1).f2).length : Int)) = false := decide_eq_false c10
                have c10b1 : decide (20 < ((rd_T42 l0 x6_1).f2).length) = false := decide_eq_false (by omega)
                clear c10
                (first | rw [c10b0] | (simp only [i64_w, i32_w]; rw [c10b0]) | skip)
                replace H := Option.bind_eq_some_iff.mp H
                obtain ⟨t331, A120, H⟩ := H
                replace H : (skirmishlaw48_NetKeeps.j1 k1 l0 x3_1 x4_1 x5_1 x6_1 t331 ((rd_T42 l0 x6_1).f0) ((rd_T42 l0 x6_1).f1) ((rd_T42 l0 x6_1).f2)) = some r := H
                have A12 := Aside0.mk A120
                clear A120
                have H' := Aside0.mk H
                clear H
                have hcz13_0 : w8.cell? ⟨gb330, 0, none⟩ = some (.int .i64 0) := (blk_cell BK330.out 0).trans rfl
                have hcz13_1 : w8.cell? ⟨gb330, 1, none⟩ = some (.int .i64 0) := (blk_cell BK330.out 1).trans rfl
                have hcz13_2 : w8.cell? ⟨gb330, 2, none⟩ = some (.slice none 0 0) := (blk_cell BK330.out 2).trans rfl
                have hfz13_0 := blk_frozen BK330.out 0
                have hfz13_1 := blk_frozen BK330.out 1
                have hfz13_2 := blk_frozen BK330.out 2
                go_wp2_with (first | (go_at_call 7; (with_reducible refine (skirmishlaw48_huge.calls k1 _ _ ((rd_T42 l0 x6_1).f2) t331 _ ?side1 ?side2 A12.out).mono ?_); (case side1 => exact Kd.C_below HR329_2.out (by repeat (first | (with_reducible first | exact HB.out | apply below_alloc | apply pw_below_drewN | apply below_drew1 | refine below_set ?_ GE330.out) | exact HB.out))); (case side2 => exact HC329_2.out); rintro e w14 ⟨rfl, hb⟩; have n0_ := Aside0.mk (Kd.N_below (by (with_reducible repeat (first | apply Kd.N_alloc | apply Kd.N_drewN | apply Kd.N_drew)); exact (Kd.N_mono (Kd.N_far (p := ⟨gb330, 2, none⟩) (Kd.N_far (p := ⟨gb330, 1, none⟩) (Kd.N_far (p := ⟨gb330, 0, none⟩) (Kd.N_mono HO_3.out (fun k_ hk => (⟨hk, hk.2⟩ : _ ∧ k_ ≠ gb330))) (fun _ hk => hk.2) (.int .i64 ((rd_T42 l0 x6_1).f0))) (fun _ hk => hk.2) (.int .i64 ((rd_T42 l0 x6_1).f1))) (fun _ hk => hk.2) (.slice A329_2 ((rd_T42 l0 x6_1).f2).length c329_2)) (fun _ h_ => h_.1))) hb); have n1_ := Aside0.mk (Kd.N_below (by (with_reducible repeat (first | apply Kd.N_alloc | apply Kd.N_drewN | apply Kd.N_drew)); exact (Kd.N_mono (Kd.N_far (p := ⟨gb330, 2, none⟩) (Kd.N_far (p := ⟨gb330, 1, none⟩) (Kd.N_far (p := ⟨gb330, 0, none⟩) (Kd.N_mono HO_4.out (fun k_ hk => (⟨hk, hk.2⟩ : _ ∧ k_ ≠ gb330))) (fun _ hk => hk.2) (.int .i64 ((rd_T42 l0 x6_1).f0))) (fun _ hk => hk.2) (.int .i64 ((rd_T42 l0 x6_1).f1))) (fun _ hk => hk.2) (.slice A329_2 ((rd_T42 l0 x6_1).f2).length c329_2)) (fun _ h_ => h_.1))) hb); have n2_ := Aside0.mk (Kd.N_below (by (with_reducible repeat (first | apply Kd.N_alloc | apply Kd.N_drewN | apply Kd.N_drew)); exact (Kd.N_mono (Kd.N_far (p := ⟨gb330, 2, none⟩) (Kd.N_far (p := ⟨gb330, 1, none⟩) (Kd.N_far (p := ⟨gb330, 0, none⟩) (Kd.N_mono HO_5.out (fun k_ hk => (⟨hk, hk.2⟩ : _ ∧ k_ ≠ gb330))) (fun _ hk => hk.2) (.int .i64 ((rd_T42 l0 x6_1).f0))) (fun _ hk => hk.2) (.int .i64 ((rd_T42 l0 x6_1).f1))) (fun _ hk => hk.2) (.slice A329_2 ((rd_T42 l0 x6_1).f2).length c329_2)) (fun _ h_ => h_.1))) hb); have n3_ := Aside0.mk (blk_below (g := gb330) (o := .cells #[.int .i64 ((rd_T42 l0 x6_1).f0), .int .i64 ((rd_T42 l0 x6_1).f1), .slice A329_2 ((rd_T42 l0 x6_1).f2).length c329_2] 42 (0, 0)) (by (with_reducible repeat (first | refine blk_drewN ?_ _ | refine blk_drew ?_ | refine blk_alloc ?_ _)); refine blk_put (cs := #[.int .i64 ((rd_T42 l0 x6_1).f0), .int .i64 ((rd_T42 l0 x6_1).f1), .slice none 0 0]) ?_ 2 _ rfl; (with_reducible repeat (first | refine blk_drewN ?_ _ | refine blk_drew ?_ | refine blk_alloc ?_ _)); refine blk_put (cs := #[.int .i64 ((rd_T42 l0 x6_1).f0), .int .i64 0, .slice none 0 0]) ?_ 1 _ rfl; (with_reducible repeat (first | refine blk_drewN ?_ _ | refine blk_drew ?_ | refine blk_alloc ?_ _)); refine blk_put (cs := #[.int .i64 0, .int .i64 0, .slice none 0 0]) ?_ 0 _ rfl; (with_reducible repeat (first | refine blk_drewN ?_ _ | refine blk_drew ?_ | refine blk_alloc ?_ _)); exact BK330.out) hb); have n4_ := Aside0.mk (below_step (by repeat (first | (with_reducible first | exact HB.out | apply below_alloc | apply pw_below_drewN | apply below_drew1 | refine below_set ?_ GE330.out) | exact HB.out)) hb); clear HO_3; clear HO_4; clear HO_5; clear BK330; clear HB; have HO_3 := n0_; have HO_4 := n1_; have HO_5 := n2_; have BK330 := n3_; have HB := n4_; clear n0_ n1_ n2_ n3_ n4_; (try clear hb); (try clear hb2); (try clear hk); (try clear hi)))
                go_meet
                case rel => exact ⟨_, (t331), (by first | rfl | (simp; done) | (simp [*]; done)), H', ⟨by have := HK1.out; first | omega | exact Nat.le_refl _⟩, ⟨by (with_reducible repeat (first | apply Kd.N_alloc | apply Kd.N_drewN | apply Kd.N_drew)); exact Kd.N_mono HO_3.out (fun _ hk => ⟨hk.1.1, ⟨hk.1.2, hk.2⟩⟩)⟩, ⟨by (with_reducible repeat (first | apply Kd.N_alloc | apply Kd.N_drewN | apply Kd.N_drew)); exact Kd.N_mono HO_4.out (fun _ hk => ⟨hk.1.1, ⟨hk.1.2, hk.2⟩⟩)⟩, ⟨by (with_reducible repeat (first | apply Kd.N_alloc | apply Kd.N_drewN | apply Kd.N_drew)); exact Kd.N_mono HO_5.out (fun _ hk => ⟨hk.1.1, ⟨hk.1.2, hk.2⟩⟩)⟩, ⟨by (with_reducible repeat (first | refine blk_drewN ?_ _ | refine blk_drew ?_ | refine blk_alloc ?_ _)); exact BK330.out⟩, ⟨by repeat (first | (with_reducible first | exact HB.out | apply below_alloc | apply pw_below_drewN | apply below_drew1 | refine below_set ?_ GE330.out) | exact HB.out)⟩⟩
            case rest =>
              clear HC7
              try clear c1
              try clear c2
              try clear c2b0
              try clear c2b1
              try clear p2
              try clear c3
              try clear p3
              try clear q3
              try clear hx3
              try clear c5
              try clear c5b0
              try clear c6
              try clear c6b0
              try clear c8
              try clear c10
              try clear c10b0
              try clear c10b1
              try clear hcz11_0
              try clear hcz11_1
              try clear hcz11_2
              try clear hcz13_0
              try clear hcz13_1
              try clear hcz13_2
              try clear hcz9_0
              try clear hcz9_1
              try clear hcz9_2
              try clear hfz11_0
              try clear hfz11_1
              try clear hfz11_2
              try clear hfz13_0
              try clear hfz13_1
              try clear hfz13_2
              try clear hfz9_0
              try clear hfz9_1
              try clear hfz9_2
              try clear hx329_0
              try clear hx329_1
              try clear hx329_2
              try clear p2
              try clear p329
              try clear q329
              obtain ⟨kq, x38_6, rfl, HA, HJ6, HO_3, HO_4, HO_5, BK330, HB⟩ := hcut
              cases kq with
              | zero => exact absurd HA.out (by simp [skirmishlaw48_NetKeeps.j1])
              | succ kj6 =>
                have H := HA.out
                clear HA
                simp only [skirmishlaw48_NetKeeps.j1] at H
                by_cases c15 : x38_6 = true
                · subst c15
                  have H1 : ((skirmishlaw48_awake.f kj6).bind fun t332 => (some t332)) = some r := by rw [if_pos rfl] at H; exact H
                  clear H
                  have H := H1
                  clear H1
                  replace H := Option.bind_eq_some_iff.mp H
                  obtain ⟨t332, A160, H⟩ := H
                  replace H : (some t332) = some r := H
                  have A16 := Aside0.mk A160
                  clear A160
                  obtain rfl := Option.some.inj H
                  go_wp2_with (first | ((with_reducible refine gate_callee (f := 8) rfl ?_); refine goesL_ (some 39) rfl rfl Try.func8 (by kernel_rfl) rfl #[] rfl (by (try simp only [List.map_toArray, List.map_cons, List.map_nil]); first | done | rfl | (simp only [List.length_drop, List.length_take]; rfl)) ?_; (with_reducible refine (skirmishlaw48_awake.calls kj6 t332 Hr.out _ A16.out).mono ?_); rintro e w17 ⟨rfl, hb⟩; refine ⟨_, rfl, ?_⟩; have n0_ := Aside0.mk (Kd.N_below (by (with_reducible repeat (first | apply Kd.N_alloc | apply Kd.N_drewN | apply Kd.N_drew)); exact HO_3.out) hb); have n1_ := Aside0.mk (Kd.N_below (by (with_reducible repeat (first | apply Kd.N_alloc | apply Kd.N_drewN | apply Kd.N_drew)); exact HO_4.out) hb); have n2_ := Aside0.mk (Kd.N_below (by (with_reducible repeat (first | apply Kd.N_alloc | apply Kd.N_drewN | apply Kd.N_drew)); exact HO_5.out) hb); have n3_ := Aside0.mk (blk_below (g := gb330) (o := .cells #[.int .i64 ((rd_T42 l0 x6_1).f0), .int .i64 ((rd_T42 l0 x6_1).f1), .slice A329_2 ((rd_T42 l0 x6_1).f2).length c329_2] 42 (0, 0)) (by (with_reducible repeat (first | refine blk_drewN ?_ _ | refine blk_drew ?_ | refine blk_alloc ?_ _)); exact BK330.out) hb); have n4_ := Aside0.mk (below_step (by repeat (first | (with_reducible first | exact HB.out | apply below_alloc | apply pw_below_drewN | apply below_drew1 | refine below_set ?_ GE330.out) | exact HB.out)) hb); clear HO_3; clear HO_4; clear HO_5; clear BK330; clear HB; have HO_3 := n0_; have HO_4 := n1_; have HO_5 := n2_; have BK330 := n3_; have HB := n4_; clear n0_ n1_ n2_ n3_ n4_; (try clear hb); (try clear hb2); (try clear hk); (try clear hi)))
                  go_ret
                  exact ⟨by first | rfl | (simp [errW_none, errW_some] <;> rfl) | (simp [*, errW_none, errW_some] <;> rfl), by repeat (first | (with_reducible first | exact HB.out | apply below_alloc | apply pw_below_drewN | apply below_drew1 | refine below_set ?_ GE330.out) | exact HB.out)⟩
                · replace c15 := Bool.eq_false_iff.mpr c15
                  subst c15
                  have H1 : (if ((rd_T42 l0 x6_1).f0) = 1 then ((net_Push.f kj6 x3_1 ((rd_T42 l0 x6_1).f2)).bind fun t333 => (if x4_1.length + ((rd_T42 l0 x6_1).f2).length < 1172812402961 then (if (t333.length : Int) > 256 then (some false) else (skirmishlaw48_NetKeeps.l0 kj6 l0 t333 (x4_1 ++ ((rd_T42 l0 x6_1).f2)) x5_1 (wrap64 (x6_1 + 1)))) else (none))) else (if ((rd_T42 l0 x6_1).f0) = 2 then ((net_Deliver.f x3_1 ((rd_T42 l0 x6_1).f1)).bind fun bt339 => (if bt339.2.2.2.2.2.2.2.2.2.2.2.2.2 = 0 then (if x5_1.length < 1172812402961 then (if (bt339.2.2.2.2.2.2.2.2.2.2.2.2.1.length : Int) > 256 then (some false) else (skirmishlaw48_NetKeeps.l0 kj6 l0 bt339.2.2.2.2.2.2.2.2.2.2.2.2.1 x4_1 (x5_1 ++ [(⟨bt339.1, bt339.2.1, bt339.2.2.1, bt339.2.2.2.1, bt339.2.2.2.2.1, bt339.2.2.2.2.2.1, bt339.2.2.2.2.2.2.1, (⟨bt339.2.2.2.2.2.2.2.1, bt339.2.2.2.2.2.2.2.2.1, bt339.2.2.2.2.2.2.2.2.2.1, bt339.2.2.2.2.2.2.2.2.2.2.1⟩ : S30), bt339.2.2.2.2.2.2.2.2.2.2.2.1⟩ : S32)]) (wrap64 (x6_1 + 1)))) else (none)) else (if (x3_1.length : Int) > 256 then (some false) else (skirmishlaw48_NetKeeps.l0 kj6 l0 x3_1 x4_1 x5_1 (wrap64 (x6_1 + 1)))))) else (if ((rd_T42 l0 x6_1).f0) = 3 then ((net_Drop.f x3_1 ((rd_T42 l0 x6_1).f1)).bind fun bt361 => (if bt361.2 = 0 then (if (bt361.1.length : Int) > 256 then (some false) else (skirmishlaw48_NetKeeps.l0 kj6 l0 bt361.1 x4_1 x5_1 (wrap64 (x6_1 + 1)))) else (if (x3_1.length : Int) > 256 then (some false) else (skirmishlaw48_NetKeeps.l0 kj6 l0 x3_1 x4_1 x5_1 (wrap64 (x6_1 + 1)))))) else (if ((rd_T42 l0 x6_1).f0) = 4 then ((net_Duplicate.f x3_1 ((rd_T42 l0 x6_1).f1)).bind fun bt365 => (if bt365.2 = 0 then (if ((rd_T42 l0 x6_1).f1) < 0 then (skirmishlaw48_NetKeeps.j2 kj6 l0 x3_1 x4_1 x5_1 x6_1 bt365.1 bt365.2 true ((rd_T42 l0 x6_1).f0) ((rd_T42 l0 x6_1).f1) ((rd_T42 l0 x6_1).f2)) else (skirmishlaw48_NetKeeps.j2 kj6 l0 x3_1 x4_1 x5_1 x6_1 bt365.1 bt365.2 (decide (((rd_T42 l0 x6_1).f1) ≥ (x3_1.length : Int))) ((rd_T42 l0 x6_1).f0) ((rd_T42 l0 x6_1).f1) ((rd_T42 l0 x6_1).f2))) else (skirmishlaw48_NetKeeps.j2 kj6 l0 x3_1 x4_1 x5_1 x6_1 bt365.1 bt365.2 false ((rd_T42 l0 x6_1).f0) ((rd_T42 l0 x6_1).f1) ((rd_T42 l0 x6_1).f2)))) else (if (x3_1.length : Int) > 256 then (some false) else (skirmishlaw48_NetKeeps.l0 kj6 l0 x3_1 x4_1 x5_1 (wrap64 (x6_1 + 1)))))))) = some r := by rw [if_neg (show ¬ (false = true) by decide)] at H; exact H
                  clear H
                  have H := H1
                  clear H1
                  by_cases c18 : ((rd_T42 l0 x6_1).f0) = 1
                  · rw [if_pos c18] at H
                    have c18b0 : (((rd_T42 l0 x6_1).f0) == 1) = true := beq_iff_eq.mpr c18
                    have c18b1 : (((rd_T42 l0 x6_1).f0) != 1) = false := bne_eq_false_iff_eq.mpr c18
                    clear c18
                    replace H := Option.bind_eq_some_iff.mp H
                    obtain ⟨t333, A190, H⟩ := H
                    replace H : (if x4_1.length + ((rd_T42 l0 x6_1).f2).length < 1172812402961 then (if (t333.length : Int) > 256 then (some false) else (skirmishlaw48_NetKeeps.l0 kj6 l0 t333 (x4_1 ++ ((rd_T42 l0 x6_1).f2)) x5_1 (wrap64 (x6_1 + 1)))) else (none)) = some r := H
                    have A19 := Aside0.mk A190
                    clear A190
                    have c20 : x4_1.length + ((rd_T42 l0 x6_1).f2).length < 1172812402961 := by
                      rcases Nat.lt_or_ge (x4_1.length + ((rd_T42 l0 x6_1).f2).length) 1172812402961 with g_ | g_
                      · exact g_
                      · rw [if_neg (by omega)] at H
                        cases H
                    rw [if_pos c20] at H
                    have LM20 := Aside0.mk c20
                    clear c20
                    obtain ⟨t336, hy336⟩ : ∃ y_ : List S32, y_ = x4_1 ++ ((rd_T42 l0 x6_1).f2) := ⟨_, rfl⟩
                    rw [← hy336] at H
                    have NY336 := Aside0.mk hy336
                    clear hy336
                    by_cases c21 : (t333.length : Int) > 256
                    · rw [if_pos c21] at H
                      exact absurd ((Option.some.inj H).trans Hr.out) (by simp)
                    · rw [if_neg c21] at H
                      have c21b0 : decide (256 < (t333.length : Int)) = false := decide_eq_false c21
                      have c21b1 : decide (256 < t333.length) = false := decide_eq_false (by omega)
                      clear c21
                      have H' := Aside0.mk H
                      clear H
                      have hcz29_0 : wc.cell? ⟨gb330, 0, none⟩ = some (.int .i64 ((rd_T42 l0 x6_1).f0)) := (blk_cell BK330.out 0).trans rfl
                      have hcz29_1 : wc.cell? ⟨gb330, 1, none⟩ = some (.int .i64 ((rd_T42 l0 x6_1).f1)) := (blk_cell BK330.out 1).trans rfl
                      have hcz29_2 : wc.cell? ⟨gb330, 2, none⟩ = some (.slice A329_2 ((rd_T42 l0 x6_1).f2).length c329_2) := (blk_cell BK330.out 2).trans rfl
                      have hfz29_0 := blk_frozen BK330.out 0
                      have hfz29_1 := blk_frozen BK330.out 1
                      have hfz29_2 := blk_frozen BK330.out 2
                      obtain ⟨Ao30, co30, eo30⟩ := Kd.N_slice HO_3.out
                      subst eo30
                      go_wp2_with (first | ((with_reducible refine gate_callee (f := 10) rfl ?_); refine goesL_ (some 47) rfl rfl Try.func10 (by kernel_rfl) rfl #[.slice Ao30 x3_1.length co30, .slice A329_2 ((rd_T42 l0 x6_1).f2).length c329_2] rfl (by (try simp only [List.map_toArray, List.map_cons, List.map_nil]); first | done | rfl | (simp only [List.length_drop, List.length_take]; rfl)) ?_; (with_reducible refine (net_Push.calls kj6 (fun k_ => (some k_ ≠ (u4 : Value).ownBlock ∧ (some k_ ≠ (u5 : Value).ownBlock ∧ k_ ≠ gb330))) _ _ x3_1 (fun k_ => k_ < w.heap.size) _ _ ((rd_T42 l0 x6_1).f2) t333 _ ?side1 ?side2 A19.out).mono ?_); (case side1 => exact Kd.N_V (HO_3.out)); (case side2 => exact Kd.V_mk HC329_2.out (Kd.F_below (Kd.C_F k32_heap HR329_2.out) (by repeat (first | (with_reducible first | exact HB.out | apply below_alloc | apply pw_below_drewN | apply below_drew1 | refine below_set ?_ GE330.out) | exact HB.out)))); rintro e w31 ⟨v334, rfl, ho0, hb⟩; refine ⟨_, rfl, ?_⟩; have n0_ := Aside0.mk (Kd.N_elder' (by (with_reducible repeat (first | apply Kd.N_alloc | apply Kd.N_drewN | apply Kd.N_drew)); exact HO_3.out) (Kd.N_base ho0) hb); have n1_ := Aside0.mk (Kd.N_elder' (by (with_reducible repeat (first | apply Kd.N_alloc | apply Kd.N_drewN | apply Kd.N_drew)); exact HO_4.out) (Kd.N_base ho0) hb); have n2_ := Aside0.mk (Kd.N_elder' (by (with_reducible repeat (first | apply Kd.N_alloc | apply Kd.N_drewN | apply Kd.N_drew)); exact HO_5.out) (Kd.N_base ho0) hb); have n3_ := Aside0.mk (Kd.N_lower (Kd.N_mono (ok' := fun k_ => some k_ ≠ (u4 : Value).ownBlock ∧ some k_ ≠ (u5 : Value).ownBlock ∧ k_ ≠ gb330) ho0 (fun k_ hk_ => ⟨Or.elim hk_ (fun hs_ => Or.elim hs_ (fun hs_ => hs_.1) (fun hs_ => fun e_ => Nat.not_le.2 hs_ (Kd.N_base HO_4.out k_ e_.symm))) (fun hn_ => (Kd.fresh' (Kd.N_lt (by (with_reducible repeat (first | apply Kd.N_alloc | apply Kd.N_drewN | apply Kd.N_drew)); exact HO_4.out)) k_ hn_)), Or.elim hk_ (fun hs_ => Or.elim hs_ (fun hs_ => hs_.2.1) (fun hs_ => fun e_ => Nat.not_le.2 hs_ (Kd.N_base HO_5.out k_ e_.symm))) (fun hn_ => (Kd.fresh' (Kd.N_lt (by (with_reducible repeat (first | apply Kd.N_alloc | apply Kd.N_drewN | apply Kd.N_drew)); exact HO_5.out)) k_ hn_)), Or.elim hk_ (fun hs_ => Or.elim hs_ (fun hs_ => hs_.2.2) (fun hs_ => fun e_ => Nat.not_le.2 hs_ (by rw [e_]; exact GW330.out))) (fun hn_ => (Kd.freshB (g := gb330) (o := .cells #[.int .i64 ((rd_T42 l0 x6_1).f0), .int .i64 ((rd_T42 l0 x6_1).f1), .slice A329_2 ((rd_T42 l0 x6_1).f2).length c329_2] 42 (0, 0)) (by (with_reducible repeat (first | refine blk_drewN ?_ _ | refine blk_drew ?_ | refine blk_alloc ?_ _)); exact BK330.out) k_ hn_))⟩)) (below_size (by repeat (first | (with_reducible first | exact HB.out | apply below_alloc | apply pw_below_drewN | apply below_drew1 | refine below_set ?_ GE330.out) | exact HB.out)))); have n4_ := Aside0.mk (blk_below (g := gb330) (o := .cells #[.int .i64 ((rd_T42 l0 x6_1).f0), .int .i64 ((rd_T42 l0 x6_1).f1), .slice A329_2 ((rd_T42 l0 x6_1).f2).length c329_2] 42 (0, 0)) (by (with_reducible repeat (first | refine blk_drewN ?_ _ | refine blk_drew ?_ | refine blk_alloc ?_ _)); exact BK330.out) hb); have n5_ := Aside0.mk (below_step (by repeat (first | (with_reducible first | exact HB.out | apply below_alloc | apply pw_below_drewN | apply below_drew1 | refine below_set ?_ GE330.out) | exact HB.out)) hb); clear HO_3; clear HO_4; clear HO_5; clear BK330; clear HB; have HO_3 := n0_; have HO_4 := n1_; have HO_5 := n2_; have HO335 := n3_; have BK330 := n4_; have HB := n5_; clear n0_ n1_ n2_ n3_ n4_ n5_; (try clear hb); (try clear hb2); (try clear hk); (try clear hi); (try clear ho0); have hcz32_0 : w31.cell? ⟨gb330, 0, none⟩ = some (.int .i64 ((rd_T42 l0 x6_1).f0)) := (blk_cell BK330.out 0).trans rfl; have hcz32_1 : w31.cell? ⟨gb330, 1, none⟩ = some (.int .i64 ((rd_T42 l0 x6_1).f1)) := (blk_cell BK330.out 1).trans rfl; have hcz32_2 : w31.cell? ⟨gb330, 2, none⟩ = some (.slice A329_2 ((rd_T42 l0 x6_1).f2).length c329_2) := (blk_cell BK330.out 2).trans rfl; have hfz32_0 := blk_frozen BK330.out 0; have hfz32_1 := blk_frozen BK330.out 1; have hfz32_2 := blk_frozen BK330.out 2; obtain ⟨Ao33, co33, eo33⟩ := Kd.N_slice HO_4.out; subst eo33) | ((with_reducible refine gate_builtin (b := .append) (xs := #[.tmp 48, .tmp 50]) rfl ?_); (try (refine gate_guard (by rfl) ?_; dsimp only)); at_builtin; refine Kd.N_append_rows k32 (w0 := w) w.heap.size rfl (.tmp 48) (.tmp 50) 22 32 (.agg #[(.int .i64 0), (.int .i64 0), (.int .i64 0), (.int .i64 0), (.int .i64 0), (.int .i64 0), (.int .u64 0), (.int .i64 0), (.int .i64 0), (.int .i64 0), (.slice none 0 0), (.string ⟨#[]⟩)]) 120 rfl Try.underlying22 info32 rfl (by decide) (by omega) (.slice Ao33 x4_1.length co33) x4_1 ((rd_T42 l0 x6_1).f2) _ _ _ (fun k_ => (some k_ ≠ (.slice Ao30 x3_1.length co30 : Value).ownBlock ∧ (some k_ ≠ (u5 : Value).ownBlock ∧ k_ ≠ gb330)) ∧ some k_ ≠ (v334 : Value).ownBlock) (fun k_ => k_ < w.heap.size) rfl rfl ?aO ?aR ?aP ?aF ?aB ?aS ?aL ?_; (case aR => exact Kd.F_below (Kd.C_F k32_heap HR329_2.out) (by repeat (first | (with_reducible first | exact HB.out | apply below_alloc | apply pw_below_drewN | apply below_drew1 | refine below_set ?_ GE330.out) | exact HB.out))); (case aB => exact (by repeat (first | (with_reducible first | exact HB.out | apply below_alloc | apply pw_below_drewN | apply below_drew1 | refine below_set ?_ GE330.out) | exact HB.out))); (case aS => exact (below_size (by repeat (first | (with_reducible first | exact HB.out | apply below_alloc | apply pw_below_drewN | apply below_drew1 | refine below_set ?_ GE330.out) | exact HB.out)))); (case aO => exact (by (with_reducible repeat (first | apply Kd.N_alloc | apply Kd.N_drewN | apply Kd.N_drew)); exact Kd.N_mono HO_4.out (fun _ hk => ⟨⟨hk.1.1, hk.1.2.1, hk.1.2.2⟩, hk.2⟩))); (case aL => have := LM20.out; omega); (case aP => exact (fun k_ hk => ⟨⟨⟨(fun e_ => Nat.not_le.2 hk (Kd.N_base HO_3.out k_ e_.symm)), (fun e_ => Nat.not_le.2 hk (Kd.N_base HO_5.out k_ e_.symm)), (fun e_ => Nat.not_le.2 hk (by rw [e_]; exact GW330.out))⟩, (fun e_ => Nat.not_le.2 hk (Kd.N_base HO335.out k_ e_.symm))⟩, (fun e_ => Nat.not_le.2 hk (Kd.N_base HO_4.out k_ e_.symm))⟩)); (case aF => exact (fun k_ hk => ⟨⟨(Kd.fresh' (Kd.N_lt (by (with_reducible repeat (first | apply Kd.N_alloc | apply Kd.N_drewN | apply Kd.N_drew)); exact HO_3.out)) k_ hk), (Kd.fresh' (Kd.N_lt (by (with_reducible repeat (first | apply Kd.N_alloc | apply Kd.N_drewN | apply Kd.N_drew)); exact HO_5.out)) k_ hk), (Kd.freshB (g := gb330) (by (with_reducible repeat (first | refine blk_drewN ?_ _ | refine blk_drew ?_ | refine blk_alloc ?_ _)); exact BK330.out) k_ hk)⟩, (Kd.fresh' (Kd.N_lt (by (with_reducible repeat (first | apply Kd.N_alloc | apply Kd.N_drewN | apply Kd.N_drew)); exact HO335.out)) k_ hk)⟩)); intro v337 w34 ho hb hg hat; rw [← NY336.out] at ho; have n0_ := Aside0.mk (Kd.N_afterv (ok := fun k_ => some k_ ≠ (u5 : Value).ownBlock) (by (with_reducible repeat (first | apply Kd.N_alloc | apply Kd.N_drewN | apply Kd.N_drew)); exact Kd.N_mono HO335.out (fun _ hk => ⟨hk.2.1, hk.1⟩)) hg hat); have n1_ := Aside0.mk (Kd.N_afterv (ok := fun k_ => some k_ ≠ (v334 : Value).ownBlock) (by (with_reducible repeat (first | apply Kd.N_alloc | apply Kd.N_drewN | apply Kd.N_drew)); exact Kd.N_mono HO_5.out (fun _ hk => ⟨hk.2, hk.1.2.1⟩)) hg hat); have n2_ := Aside0.mk ho; have n3_ := Aside0.mk hb; clear HO_3 HO_4 HO_5 HO335 BK330 HB; have HO335 := n0_; have HO_5 := n1_; have HO338 := n2_; have HB := n3_; clear n0_ n1_ n2_ n3_ ho hb hg hat; obtain ⟨Ao35, co35, eo35⟩ := Kd.N_slice HO335.out; subst eo35))
                      go_roundg kj6
                      case measure => have := HK1.out; have := HJ6.out; omega
                      case rel => exact ⟨(t333), (t336), (x5_1), (wrap64 (x6_1 + 1)), (by first | rfl | (simp; done) | (simp [*]; done)), H', ⟨by have := HK1.out; have := HJ6.out; omega⟩, ⟨by (with_reducible repeat (first | apply Kd.N_alloc | apply Kd.N_drewN | apply Kd.N_drew)); exact Kd.N_mono HO335.out (fun _ hk => ⟨hk.2, hk.1⟩)⟩, ⟨by (with_reducible repeat (first | apply Kd.N_alloc | apply Kd.N_drewN | apply Kd.N_drew)); exact Kd.N_mono HO338.out (fun _ hk => ⟨hk.2, hk.1.2.1⟩)⟩, ⟨by (with_reducible repeat (first | apply Kd.N_alloc | apply Kd.N_drewN | apply Kd.N_drew)); exact Kd.N_mono HO_5.out (fun _ hk => ⟨hk.1, hk.2⟩)⟩, ⟨by repeat (first | (with_reducible first | exact HB.out | apply below_alloc | apply pw_below_drewN | apply below_drew1 | refine below_set ?_ GE330.out) | exact HB.out)⟩⟩
                  · rw [if_neg c18] at H
                    have c18b0 : (((rd_T42 l0 x6_1).f0) == 1) = false := beq_eq_false_iff_ne.mpr c18
                    have c18b1 : (((rd_T42 l0 x6_1).f0) != 1) = true := bne_iff_ne.mpr c18
                    by_cases c36 : ((rd_T42 l0 x6_1).f0) = 2
                    · rw [if_pos c36] at H
                      have c36b0 : (((rd_T42 l0 x6_1).f0) == 2) = true := beq_iff_eq.mpr c36
                      have c36b1 : (((rd_T42 l0 x6_1).f0) != 2) = false := bne_eq_false_iff_eq.mpr c36
                      clear c36
                      replace H := Option.bind_eq_some_iff.mp H
                      obtain ⟨⟨t339, t340, t341, t342, t343, t344, t345, t346, t347, t348, t349, t352, t353, t356⟩, A370, H⟩ := H
                      replace H : (if t356 = 0 then (if x5_1.length < 1172812402961 then (if (t353.length : Int) > 256 then (some false) else (skirmishlaw48_NetKeeps.l0 kj6 l0 t353 x4_1 (x5_1 ++ [(⟨t339, t340, t341, t342, t343, t344, t345, (⟨t346, t347, t348, t349⟩ : S30), t352⟩ : S32)]) (wrap64 (x6_1 + 1)))) else (none)) else (if (x3_1.length : Int) > 256 then (some false) else (skirmishlaw48_NetKeeps.l0 kj6 l0 x3_1 x4_1 x5_1 (wrap64 (x6_1 + 1))))) = some r := H
                      have A37 := Aside0.mk A370
                      clear A370
                      by_cases c38 : t356 = 0
                      · rw [if_pos c38] at H
                        have c38b0 : (t356 == 0) = true := beq_iff_eq.mpr c38
                        have c38b1 : (t356 != 0) = false := bne_eq_false_iff_eq.mpr c38
                        clear c38
                        by_cases c39 : x5_1.length < 1172812402961
                        · rw [if_pos c39] at H
                          have LMc39 := Aside0.mk c39
                          clear c39
                          obtain ⟨y358, hy358⟩ : ∃ y_ : List (S32), y_ = (x5_1 ++ [(⟨t339, t340, t341, t342, t343, t344, t345, (⟨t346, t347, t348, t349⟩ : S30), t352⟩ : S32)]) := ⟨_, rfl⟩
                          replace H : (if (t353.length : Int) > 256 then (some false) else (skirmishlaw48_NetKeeps.l0 kj6 l0 t353 x4_1 y358 (wrap64 (x6_1 + 1)))) = some r := by first | (rw [hy358]; with_reducible exact H) | (have H2_ := (Option.bind_some _ _).symm.trans H; rw [hy358]; with_reducible exact H2_) | (have H2_ := (Option.bind_some _ _).symm.trans H; with_reducible exact H2_) | with_reducible exact H | (rw [hy358]; exact H) | exact H
                          have Ny358 := Aside0.mk hy358
                          clear hy358
                          by_cases c40 : (t353.length : Int) > 256
                          · rw [if_pos c40] at H
                            exact absurd ((Option.some.inj H).trans Hr.out) (by simp)
                          · rw [if_neg c40] at H
                            have c40b0 : decide (256 < (t353.length : Int)) = false := decide_eq_false c40
                            have c40b1 : decide (256 < t353.length) = false := decide_eq_false (by omega)
                            clear c40
                            have H' := Aside0.mk H
                            clear H
                            have hcz52_0 : wc.cell? ⟨gb330, 0, none⟩ = some (.int .i64 ((rd_T42 l0 x6_1).f0)) := (blk_cell BK330.out 0).trans rfl
                            have hcz52_1 : wc.cell? ⟨gb330, 1, none⟩ = some (.int .i64 ((rd_T42 l0 x6_1).f1)) := (blk_cell BK330.out 1).trans rfl
                            have hcz52_2 : wc.cell? ⟨gb330, 2, none⟩ = some (.slice A329_2 ((rd_T42 l0 x6_1).f2).length c329_2) := (blk_cell BK330.out 2).trans rfl
                            have hfz52_0 := blk_frozen BK330.out 0
                            have hfz52_1 := blk_frozen BK330.out 1
                            have hfz52_2 := blk_frozen BK330.out 2
                            obtain ⟨Ao53, co53, eo53⟩ := Kd.N_slice HO_3.out
                            subst eo53
                            go_wp2_with (first | ((with_reducible refine gate_callee (f := 12) rfl ?_); refine goesL_ (some 58) rfl rfl Try.func12 (by kernel_rfl) rfl #[.slice Ao53 x3_1.length co53, .int .i64 ((rd_T42 l0 x6_1).f1)] rfl (by (try simp only [List.map_toArray, List.map_cons, List.map_nil]); first | done | rfl | (simp only [List.length_drop, List.length_take]; rfl)) ?_; (with_reducible refine (net_Deliver.calls (fun k_ => (some k_ ≠ (u4 : Value).ownBlock ∧ (some k_ ≠ (u5 : Value).ownBlock ∧ k_ ≠ gb330))) _ _ x3_1 ((rd_T42 l0 x6_1).f1) t339 t340 t341 t342 t343 t344 t345 t346 t347 t348 t349 t352 t353 t356 _ ?side1 A37.out).mono ?_); (case side1 => exact Kd.N_V (HO_3.out)); rintro e w54 ⟨v350, v354, rfl, ho0, ho1, hb⟩; refine ⟨_, rfl, ?_⟩; have n0_ := Aside0.mk (Kd.N_elder' (by (with_reducible repeat (first | apply Kd.N_alloc | apply Kd.N_drewN | apply Kd.N_drew)); exact HO_3.out) (Kd.N_base ho1) hb); have n1_ := Aside0.mk (Kd.N_elder' (by (with_reducible repeat (first | apply Kd.N_alloc | apply Kd.N_drewN | apply Kd.N_drew)); exact HO_4.out) (Kd.N_base ho1) hb); have n2_ := Aside0.mk (Kd.N_elder' (by (with_reducible repeat (first | apply Kd.N_alloc | apply Kd.N_drewN | apply Kd.N_drew)); exact HO_5.out) (Kd.N_base ho1) hb); have n3_ := Aside0.mk (Kd.V_lower (Kd.V_mono (ok' := fun k_ => some k_ ≠ (v354 : Value).ownBlock ∧ some k_ ≠ (u4 : Value).ownBlock ∧ some k_ ≠ (u5 : Value).ownBlock ∧ k_ ≠ gb330) ho0 (fun k_ hk_ => ⟨hk_.2, Or.elim hk_.1 (fun hs_ => hs_.1) (fun hn_ => (Kd.fresh' (Kd.N_lt (by (with_reducible repeat (first | apply Kd.N_alloc | apply Kd.N_drewN | apply Kd.N_drew)); exact HO_4.out)) k_ hn_)), Or.elim hk_.1 (fun hs_ => hs_.2.1) (fun hn_ => (Kd.fresh' (Kd.N_lt (by (with_reducible repeat (first | apply Kd.N_alloc | apply Kd.N_drewN | apply Kd.N_drew)); exact HO_5.out)) k_ hn_)), Or.elim hk_.1 (fun hs_ => hs_.2.2) (fun hn_ => (Kd.freshB (g := gb330) (o := .cells #[.int .i64 ((rd_T42 l0 x6_1).f0), .int .i64 ((rd_T42 l0 x6_1).f1), .slice A329_2 ((rd_T42 l0 x6_1).f2).length c329_2] 42 (0, 0)) (by (with_reducible repeat (first | refine blk_drewN ?_ _ | refine blk_drew ?_ | refine blk_alloc ?_ _)); exact BK330.out) k_ hn_))⟩)) (below_size (by repeat (first | (with_reducible first | exact HB.out | apply below_alloc | apply pw_below_drewN | apply below_drew1 | refine below_set ?_ GE330.out) | exact HB.out)))); have n4_ := Aside0.mk (Kd.N_lower (Kd.N_mono (ok' := fun k_ => some k_ ≠ (u4 : Value).ownBlock ∧ some k_ ≠ (u5 : Value).ownBlock ∧ k_ ≠ gb330) ho1 (fun k_ hk_ => ⟨Or.elim hk_ (fun hs_ => hs_.1) (fun hn_ => (Kd.fresh' (Kd.N_lt (by (with_reducible repeat (first | apply Kd.N_alloc | apply Kd.N_drewN | apply Kd.N_drew)); exact HO_4.out)) k_ hn_)), Or.elim hk_ (fun hs_ => hs_.2.1) (fun hn_ => (Kd.fresh' (Kd.N_lt (by (with_reducible repeat (first | apply Kd.N_alloc | apply Kd.N_drewN | apply Kd.N_drew)); exact HO_5.out)) k_ hn_)), Or.elim hk_ (fun hs_ => hs_.2.2) (fun hn_ => (Kd.freshB (g := gb330) (o := .cells #[.int .i64 ((rd_T42 l0 x6_1).f0), .int .i64 ((rd_T42 l0 x6_1).f1), .slice A329_2 ((rd_T42 l0 x6_1).f2).length c329_2] 42 (0, 0)) (by (with_reducible repeat (first | refine blk_drewN ?_ _ | refine blk_drew ?_ | refine blk_alloc ?_ _)); exact BK330.out) k_ hn_))⟩)) (below_size (by repeat (first | (with_reducible first | exact HB.out | apply below_alloc | apply pw_below_drewN | apply below_drew1 | refine below_set ?_ GE330.out) | exact HB.out)))); have n5_ := Aside0.mk (blk_below (g := gb330) (o := .cells #[.int .i64 ((rd_T42 l0 x6_1).f0), .int .i64 ((rd_T42 l0 x6_1).f1), .slice A329_2 ((rd_T42 l0 x6_1).f2).length c329_2] 42 (0, 0)) (by (with_reducible repeat (first | refine blk_drewN ?_ _ | refine blk_drew ?_ | refine blk_alloc ?_ _)); exact BK330.out) hb); have n6_ := Aside0.mk (below_step (by repeat (first | (with_reducible first | exact HB.out | apply below_alloc | apply pw_below_drewN | apply below_drew1 | refine below_set ?_ GE330.out) | exact HB.out)) hb); clear HO_3; clear HO_4; clear HO_5; clear BK330; clear HB; have HO_3 := n0_; have HO_4 := n1_; have HO_5 := n2_; have HO351 := n3_; have HO355 := n4_; have BK330 := n5_; have HB := n6_; clear n0_ n1_ n2_ n3_ n4_ n5_ n6_; (try clear hb); (try clear hb2); (try clear hk); (try clear hi); (try clear ho0); (try clear ho1)) | ((with_reducible refine gate_dst (N := 8) rfl ?_); (try (refine gate_guard (by rfl) ?_; dsimp only)); refine box_event ?hg (N := 8) ?hd (cs := #[.int .i64 0, .int .i64 0, .int .i64 0, .int .i64 0, .int .i64 0, .int .i64 0, .int .u64 0, .int .i64 0, .int .i64 0, .int .i64 0, .slice none 0 0, .string (⟨#[]⟩ : ByteArray)]) (t := 32) ?hr ?_; (case hd => rfl); (case hg => rfl); (case hr => first | (go_simp; done) | (go_simp; rfl)); intro gb357 hg w55 hbox hb; have n0_ := Aside0.mk (Kd.N_below (Kd.N_elderB (by (with_reducible repeat (first | apply Kd.N_alloc | apply Kd.N_drewN | apply Kd.N_drew)); exact HO_3.out) gb357 (Nat.le_of_eq hg.symm)) hb); have n1_ := Aside0.mk (Kd.N_below (Kd.N_elderB (by (with_reducible repeat (first | apply Kd.N_alloc | apply Kd.N_drewN | apply Kd.N_drew)); exact HO_4.out) gb357 (Nat.le_of_eq hg.symm)) hb); have n2_ := Aside0.mk (Kd.N_below (Kd.N_elderB (by (with_reducible repeat (first | apply Kd.N_alloc | apply Kd.N_drewN | apply Kd.N_drew)); exact HO_5.out) gb357 (Nat.le_of_eq hg.symm)) hb); have n3_ := Aside0.mk (Kd.V_below (Kd.V_elderB (by (with_reducible repeat (first | apply Kd.V_alloc | apply Kd.V_drewN | apply Kd.V_drew)); exact HO351.out) gb357 (Nat.le_of_eq hg.symm)) hb); have n4_ := Aside0.mk (Kd.N_below (Kd.N_elderB (by (with_reducible repeat (first | apply Kd.N_alloc | apply Kd.N_drewN | apply Kd.N_drew)); exact HO355.out) gb357 (Nat.le_of_eq hg.symm)) hb); have n5_ := Aside0.mk (blk_below (g := gb330) (o := .cells #[.int .i64 ((rd_T42 l0 x6_1).f0), .int .i64 ((rd_T42 l0 x6_1).f1), .slice A329_2 ((rd_T42 l0 x6_1).f2).length c329_2] 42 (0, 0)) (by (with_reducible repeat (first | refine blk_drewN ?_ _ | refine blk_drew ?_ | refine blk_alloc ?_ _)); exact BK330.out) hb); have n6_ := Aside0.mk (below_step (by repeat (first | (with_reducible first | exact HB.out | apply below_alloc | apply pw_below_drewN | apply below_drew1 | refine below_set ?_ GE330.out) | exact HB.out)) hb); have n7_ := Aside0.mk (hbox); have n8_ := Aside0.mk ((by rw [hg]; exact (below_size (by repeat (first | (with_reducible first | exact HB.out | apply below_alloc | apply pw_below_drewN | apply below_drew1 | refine below_set ?_ GE330.out) | exact HB.out))) : w.heap.size ≤ gb357)); have n9_ := Aside0.mk ((by rw [hg]; exact (below_size (by repeat (first | (with_reducible first | exact HB.out | apply below_alloc | apply pw_below_drewN | apply below_drew1 | refine below_set ?_ GE330.out) | exact HB.out))) : w.heap.size ≤ gb357)); have n10_ := Aside0.mk ((by rw [hg]; exact Nat.ne_of_lt (blk_lt (g := gb330) (o := .cells #[.int .i64 ((rd_T42 l0 x6_1).f0), .int .i64 ((rd_T42 l0 x6_1).f1), .slice A329_2 ((rd_T42 l0 x6_1).f2).length c329_2] 42 (0, 0)) (by (with_reducible repeat (first | refine blk_drewN ?_ _ | refine blk_drew ?_ | refine blk_alloc ?_ _)); exact BK330.out)) : gb330 ≠ gb357)); have n11_ := Aside0.mk ((by rw [hg]; exact Nat.ne_of_gt (blk_lt (g := gb330) (o := .cells #[.int .i64 ((rd_T42 l0 x6_1).f0), .int .i64 ((rd_T42 l0 x6_1).f1), .slice A329_2 ((rd_T42 l0 x6_1).f2).length c329_2] 42 (0, 0)) (by (with_reducible repeat (first | refine blk_drewN ?_ _ | refine blk_drew ?_ | refine blk_alloc ?_ _)); exact BK330.out)) : gb357 ≠ gb330)); clear HO_3; clear HO_4; clear HO_5; clear HO351; clear HO355; clear BK330; clear HB; have HO_3 := n0_; have HO_4 := n1_; have HO_5 := n2_; have HO351 := n3_; have HO355 := n4_; have BK330 := n5_; have HB := n6_; have BK357 := n7_; have GW357 := n8_; have GE357 := n9_; have NB330_357 := n10_; have NB357_330 := n11_; clear n0_ n1_ n2_ n3_ n4_ n5_ n6_ n7_ n8_ n9_ n10_ n11_; clear hb hbox hg; have hnb56 := NB357_330.out; have hnc56 := NB330_357.out; have hcz57_0 : w55.cell? ⟨gb357, 0, none⟩ = some (.int .i64 0) := (blk_cell BK357.out 0).trans rfl; have hcz57_1 : w55.cell? ⟨gb357, 1, none⟩ = some (.int .i64 0) := (blk_cell BK357.out 1).trans rfl; have hcz57_2 : w55.cell? ⟨gb357, 2, none⟩ = some (.int .i64 0) := (blk_cell BK357.out 2).trans rfl; have hcz57_3 : w55.cell? ⟨gb357, 3, none⟩ = some (.int .i64 0) := (blk_cell BK357.out 3).trans rfl; have hcz57_4 : w55.cell? ⟨gb357, 4, none⟩ = some (.int .i64 0) := (blk_cell BK357.out 4).trans rfl; have hcz57_5 : w55.cell? ⟨gb357, 5, none⟩ = some (.int .i64 0) := (blk_cell BK357.out 5).trans rfl; have hcz57_6 : w55.cell? ⟨gb357, 6, none⟩ = some (.int .u64 0) := (blk_cell BK357.out 6).trans rfl; have hcz57_7 : w55.cell? ⟨gb357, 7, none⟩ = some (.int .i64 0) := (blk_cell BK357.out 7).trans rfl; have hcz57_8 : w55.cell? ⟨gb357, 8, none⟩ = some (.int .i64 0) := (blk_cell BK357.out 8).trans rfl; have hcz57_9 : w55.cell? ⟨gb357, 9, none⟩ = some (.int .i64 0) := (blk_cell BK357.out 9).trans rfl; have hcz57_10 : w55.cell? ⟨gb357, 10, none⟩ = some (.slice none 0 0) := (blk_cell BK357.out 10).trans rfl; have hcz57_11 : w55.cell? ⟨gb357, 11, none⟩ = some (.string (⟨#[]⟩ : ByteArray)) := (blk_cell BK357.out 11).trans rfl; have hfz57_0 := blk_frozen BK357.out 0; have hfz57_1 := blk_frozen BK357.out 1; have hfz57_2 := blk_frozen BK357.out 2; have hfz57_3 := blk_frozen BK357.out 3; have hfz57_4 := blk_frozen BK357.out 4; have hfz57_5 := blk_frozen BK357.out 5; have hfz57_6 := blk_frozen BK357.out 6; have hfz57_7 := blk_frozen BK357.out 7; have hfz57_8 := blk_frozen BK357.out 8; have hfz57_9 := blk_frozen BK357.out 9; have hfz57_10 := blk_frozen BK357.out 10; have hfz57_11 := blk_frozen BK357.out 11; obtain ⟨Ao58, co58, eo58⟩ := Kd.V_slice HO351.out; subst eo58) | ((with_reducible refine gate_store (t := 32) (p := 8) rfl ?_); refine store_event (t := 32) (p := 8) (v := ?vo_w59) (w1 := ((((((((((((w55.setCell ⟨gb357, 0, none⟩ (.int .i64 t339)).setCell ⟨gb357, 1, none⟩ (.int .i64 t340)).setCell ⟨gb357, 2, none⟩ (.int .i64 t341)).setCell ⟨gb357, 3, none⟩ (.int .i64 t342)).setCell ⟨gb357, 4, none⟩ (.int .i64 t343)).setCell ⟨gb357, 5, none⟩ (.int .i64 t344)).setCell ⟨gb357, 6, none⟩ (.int .u64 t345)).setCell ⟨gb357, 7, none⟩ (.int .i64 t346)).setCell ⟨gb357, 8, none⟩ (.int .i64 t347)).setCell ⟨gb357, 9, none⟩ (.int .i64 t348)).setCell ⟨gb357, 10, none⟩ (.slice Ao58 t349.length co58)).setCell ⟨gb357, 11, none⟩ (.string t352))) ?hg ?ho ?hn ?hr ?_; (case ho => rfl); (case hg => rfl); (case hn => rfl); (case hr => first | (go_simp; done) | (go_simp; rfl)); intro w59 hw; have n0_ : Aside0 (Kd.N k32 32 w59 w.heap.size (fun k_ => some k_ ≠ (u4 : Value).ownBlock ∧ some k_ ≠ (u5 : Value).ownBlock ∧ some k_ ≠ (v354 : Value).ownBlock ∧ k_ ≠ gb330 ∧ k_ ≠ gb357) (.slice Ao53 x3_1.length co53) x3_1) := ⟨(by rw [hw]; exact (by (with_reducible repeat (first | apply Kd.N_alloc | apply Kd.N_drewN | apply Kd.N_drew)); exact Kd.N_mono (Kd.N_far (p := ⟨gb357, 11, none⟩) (Kd.N_far (p := ⟨gb357, 10, none⟩) (Kd.N_far (p := ⟨gb357, 9, none⟩) (Kd.N_far (p := ⟨gb357, 8, none⟩) (Kd.N_far (p := ⟨gb357, 7, none⟩) (Kd.N_far (p := ⟨gb357, 6, none⟩) (Kd.N_far (p := ⟨gb357, 5, none⟩) (Kd.N_far (p := ⟨gb357, 4, none⟩) (Kd.N_far (p := ⟨gb357, 3, none⟩) (Kd.N_far (p := ⟨gb357, 2, none⟩) (Kd.N_far (p := ⟨gb357, 1, none⟩) (Kd.N_far (p := ⟨gb357, 0, none⟩) (Kd.N_mono HO_3.out (fun k_ hk => (⟨hk, hk.2⟩ : _ ∧ k_ ≠ gb357))) (fun _ hk => hk.2) (.int .i64 t339)) (fun _ hk => hk.2) (.int .i64 t340)) (fun _ hk => hk.2) (.int .i64 t341)) (fun _ hk => hk.2) (.int .i64 t342)) (fun _ hk => hk.2) (.int .i64 t343)) (fun _ hk => hk.2) (.int .i64 t344)) (fun _ hk => hk.2) (.int .u64 t345)) (fun _ hk => hk.2) (.int .i64 t346)) (fun _ hk => hk.2) (.int .i64 t347)) (fun _ hk => hk.2) (.int .i64 t348)) (fun _ hk => hk.2) (.slice Ao58 t349.length co58)) (fun _ hk => hk.2) (.string t352)) (fun _ hk => ⟨hk.1.1.1.1, ⟨hk.1.1.1.2.1, ⟨hk.1.1.2, ⟨hk.1.1.1.2.2, hk.1.2⟩⟩⟩⟩)))⟩; have n1_ : Aside0 (Kd.N k32 32 w59 w.heap.size (fun k_ => some k_ ≠ (.slice Ao53 x3_1.length co53 : Value).ownBlock ∧ some k_ ≠ (u5 : Value).ownBlock ∧ some k_ ≠ (v354 : Value).ownBlock ∧ k_ ≠ gb330 ∧ k_ ≠ gb357) u4 x4_1) := ⟨(by rw [hw]; exact (by (with_reducible repeat (first | apply Kd.N_alloc | apply Kd.N_drewN | apply Kd.N_drew)); exact Kd.N_mono (Kd.N_far (p := ⟨gb357, 11, none⟩) (Kd.N_far (p := ⟨gb357, 10, none⟩) (Kd.N_far (p := ⟨gb357, 9, none⟩) (Kd.N_far (p := ⟨gb357, 8, none⟩) (Kd.N_far (p := ⟨gb357, 7, none⟩) (Kd.N_far (p := ⟨gb357, 6, none⟩) (Kd.N_far (p := ⟨gb357, 5, none⟩) (Kd.N_far (p := ⟨gb357, 4, none⟩) (Kd.N_far (p := ⟨gb357, 3, none⟩) (Kd.N_far (p := ⟨gb357, 2, none⟩) (Kd.N_far (p := ⟨gb357, 1, none⟩) (Kd.N_far (p := ⟨gb357, 0, none⟩) (Kd.N_mono HO_4.out (fun k_ hk => (⟨hk, hk.2⟩ : _ ∧ k_ ≠ gb357))) (fun _ hk => hk.2) (.int .i64 t339)) (fun _ hk => hk.2) (.int .i64 t340)) (fun _ hk => hk.2) (.int .i64 t341)) (fun _ hk => hk.2) (.int .i64 t342)) (fun _ hk => hk.2) (.int .i64 t343)) (fun _ hk => hk.2) (.int .i64 t344)) (fun _ hk => hk.2) (.int .u64 t345)) (fun _ hk => hk.2) (.int .i64 t346)) (fun _ hk => hk.2) (.int .i64 t347)) (fun _ hk => hk.2) (.int .i64 t348)) (fun _ hk => hk.2) (.slice Ao58 t349.length co58)) (fun _ hk => hk.2) (.string t352)) (fun _ hk => ⟨hk.1.1.1.1, ⟨hk.1.1.1.2.1, ⟨hk.1.1.2, ⟨hk.1.1.1.2.2, hk.1.2⟩⟩⟩⟩)))⟩; have n2_ : Aside0 (Kd.N k32 32 w59 w.heap.size (fun k_ => some k_ ≠ (.slice Ao53 x3_1.length co53 : Value).ownBlock ∧ some k_ ≠ (u4 : Value).ownBlock ∧ some k_ ≠ (v354 : Value).ownBlock ∧ k_ ≠ gb330 ∧ k_ ≠ gb357) u5 x5_1) := ⟨(by rw [hw]; exact (by (with_reducible repeat (first | apply Kd.N_alloc | apply Kd.N_drewN | apply Kd.N_drew)); exact Kd.N_mono (Kd.N_far (p := ⟨gb357, 11, none⟩) (Kd.N_far (p := ⟨gb357, 10, none⟩) (Kd.N_far (p := ⟨gb357, 9, none⟩) (Kd.N_far (p := ⟨gb357, 8, none⟩) (Kd.N_far (p := ⟨gb357, 7, none⟩) (Kd.N_far (p := ⟨gb357, 6, none⟩) (Kd.N_far (p := ⟨gb357, 5, none⟩) (Kd.N_far (p := ⟨gb357, 4, none⟩) (Kd.N_far (p := ⟨gb357, 3, none⟩) (Kd.N_far (p := ⟨gb357, 2, none⟩) (Kd.N_far (p := ⟨gb357, 1, none⟩) (Kd.N_far (p := ⟨gb357, 0, none⟩) (Kd.N_mono HO_5.out (fun k_ hk => (⟨hk, hk.2⟩ : _ ∧ k_ ≠ gb357))) (fun _ hk => hk.2) (.int .i64 t339)) (fun _ hk => hk.2) (.int .i64 t340)) (fun _ hk => hk.2) (.int .i64 t341)) (fun _ hk => hk.2) (.int .i64 t342)) (fun _ hk => hk.2) (.int .i64 t343)) (fun _ hk => hk.2) (.int .i64 t344)) (fun _ hk => hk.2) (.int .u64 t345)) (fun _ hk => hk.2) (.int .i64 t346)) (fun _ hk => hk.2) (.int .i64 t347)) (fun _ hk => hk.2) (.int .i64 t348)) (fun _ hk => hk.2) (.slice Ao58 t349.length co58)) (fun _ hk => hk.2) (.string t352)) (fun _ hk => ⟨hk.1.1.1.1, ⟨hk.1.1.1.2.1, ⟨hk.1.1.2, ⟨hk.1.1.1.2.2, hk.1.2⟩⟩⟩⟩)))⟩; have n3_ : Aside0 (Kd.V k49 49 w59 w.heap.size (fun k_ => some k_ ≠ (u4 : Value).ownBlock ∧ some k_ ≠ (u5 : Value).ownBlock ∧ some k_ ≠ (v354 : Value).ownBlock ∧ k_ ≠ gb330 ∧ k_ ≠ gb357) (.slice Ao58 t349.length co58) t349) := ⟨(by rw [hw]; exact (by (with_reducible repeat (first | apply Kd.V_alloc | apply Kd.V_drewN | apply Kd.V_drew)); exact Kd.V_mono (Kd.V_far (p := ⟨gb357, 11, none⟩) (Kd.V_far (p := ⟨gb357, 10, none⟩) (Kd.V_far (p := ⟨gb357, 9, none⟩) (Kd.V_far (p := ⟨gb357, 8, none⟩) (Kd.V_far (p := ⟨gb357, 7, none⟩) (Kd.V_far (p := ⟨gb357, 6, none⟩) (Kd.V_far (p := ⟨gb357, 5, none⟩) (Kd.V_far (p := ⟨gb357, 4, none⟩) (Kd.V_far (p := ⟨gb357, 3, none⟩) (Kd.V_far (p := ⟨gb357, 2, none⟩) (Kd.V_far (p := ⟨gb357, 1, none⟩) (Kd.V_far (p := ⟨gb357, 0, none⟩) (Kd.V_mono HO351.out (fun k_ hk => (⟨hk, hk.2⟩ : _ ∧ k_ ≠ gb357))) (fun _ hk => hk.2) (.int .i64 t339)) (fun _ hk => hk.2) (.int .i64 t340)) (fun _ hk => hk.2) (.int .i64 t341)) (fun _ hk => hk.2) (.int .i64 t342)) (fun _ hk => hk.2) (.int .i64 t343)) (fun _ hk => hk.2) (.int .i64 t344)) (fun _ hk => hk.2) (.int .u64 t345)) (fun _ hk => hk.2) (.int .i64 t346)) (fun _ hk => hk.2) (.int .i64 t347)) (fun _ hk => hk.2) (.int .i64 t348)) (fun _ hk => hk.2) (.slice Ao58 t349.length co58)) (fun _ hk => hk.2) (.string t352)) (fun _ hk => ⟨hk.1.1.2.1, ⟨hk.1.1.2.2.1, ⟨hk.1.1.1, ⟨hk.1.1.2.2.2, hk.1.2⟩⟩⟩⟩)))⟩; have n4_ : Aside0 (Kd.N k32 32 w59 w.heap.size (fun k_ => some k_ ≠ (u4 : Value).ownBlock ∧ some k_ ≠ (u5 : Value).ownBlock ∧ k_ ≠ gb330 ∧ k_ ≠ gb357) v354 t353) := ⟨(by rw [hw]; exact (by (with_reducible repeat (first | apply Kd.N_alloc | apply Kd.N_drewN | apply Kd.N_drew)); exact Kd.N_mono (Kd.N_far (p := ⟨gb357, 11, none⟩) (Kd.N_far (p := ⟨gb357, 10, none⟩) (Kd.N_far (p := ⟨gb357, 9, none⟩) (Kd.N_far (p := ⟨gb357, 8, none⟩) (Kd.N_far (p := ⟨gb357, 7, none⟩) (Kd.N_far (p := ⟨gb357, 6, none⟩) (Kd.N_far (p := ⟨gb357, 5, none⟩) (Kd.N_far (p := ⟨gb357, 4, none⟩) (Kd.N_far (p := ⟨gb357, 3, none⟩) (Kd.N_far (p := ⟨gb357, 2, none⟩) (Kd.N_far (p := ⟨gb357, 1, none⟩) (Kd.N_far (p := ⟨gb357, 0, none⟩) (Kd.N_mono HO355.out (fun k_ hk => (⟨hk, hk.2⟩ : _ ∧ k_ ≠ gb357))) (fun _ hk => hk.2) (.int .i64 t339)) (fun _ hk => hk.2) (.int .i64 t340)) (fun _ hk => hk.2) (.int .i64 t341)) (fun _ hk => hk.2) (.int .i64 t342)) (fun _ hk => hk.2) (.int .i64 t343)) (fun _ hk => hk.2) (.int .i64 t344)) (fun _ hk => hk.2) (.int .u64 t345)) (fun _ hk => hk.2) (.int .i64 t346)) (fun _ hk => hk.2) (.int .i64 t347)) (fun _ hk => hk.2) (.int .i64 t348)) (fun _ hk => hk.2) (.slice Ao58 t349.length co58)) (fun _ hk => hk.2) (.string t352)) (fun _ hk => ⟨hk.1.1.1, ⟨hk.1.1.2.1, ⟨hk.1.1.2.2, hk.1.2⟩⟩⟩)))⟩; have n5_ : Aside0 (w59.heap[gb330]? = some (.cells #[.int .i64 ((rd_T42 l0 x6_1).f0), .int .i64 ((rd_T42 l0 x6_1).f1), .slice A329_2 ((rd_T42 l0 x6_1).f2).length c329_2] 42 (0, 0))) := ⟨(by rw [hw]; exact (by (with_reducible repeat (first | refine blk_drewN ?_ _ | refine blk_drew ?_ | refine blk_alloc ?_ _)); refine blk_far ?_ NB330_357.out _; (with_reducible repeat (first | refine blk_drewN ?_ _ | refine blk_drew ?_ | refine blk_alloc ?_ _)); refine blk_far ?_ NB330_357.out _; (with_reducible repeat (first | refine blk_drewN ?_ _ | refine blk_drew ?_ | refine blk_alloc ?_ _)); refine blk_far ?_ NB330_357.out _; (with_reducible repeat (first | refine blk_drewN ?_ _ | refine blk_drew ?_ | refine blk_alloc ?_ _)); refine blk_far ?_ NB330_357.out _; (with_reducible repeat (first | refine blk_drewN ?_ _ | refine blk_drew ?_ | refine blk_alloc ?_ _)); refine blk_far ?_ NB330_357.out _; (with_reducible repeat (first | refine blk_drewN ?_ _ | refine blk_drew ?_ | refine blk_alloc ?_ _)); refine blk_far ?_ NB330_357.out _; (with_reducible repeat (first | refine blk_drewN ?_ _ | refine blk_drew ?_ | refine blk_alloc ?_ _)); refine blk_far ?_ NB330_357.out _; (with_reducible repeat (first | refine blk_drewN ?_ _ | refine blk_drew ?_ | refine blk_alloc ?_ _)); refine blk_far ?_ NB330_357.out _; (with_reducible repeat (first | refine blk_drewN ?_ _ | refine blk_drew ?_ | refine blk_alloc ?_ _)); refine blk_far ?_ NB330_357.out _; (with_reducible repeat (first | refine blk_drewN ?_ _ | refine blk_drew ?_ | refine blk_alloc ?_ _)); refine blk_far ?_ NB330_357.out _; (with_reducible repeat (first | refine blk_drewN ?_ _ | refine blk_drew ?_ | refine blk_alloc ?_ _)); refine blk_far ?_ NB330_357.out _; (with_reducible repeat (first | refine blk_drewN ?_ _ | refine blk_drew ?_ | refine blk_alloc ?_ _)); refine blk_far ?_ NB330_357.out _; (with_reducible repeat (first | refine blk_drewN ?_ _ | refine blk_drew ?_ | refine blk_alloc ?_ _)); exact BK330.out))⟩; have n6_ : Aside0 (w59.heap[gb357]? = some (.cells #[.int .i64 t339, .int .i64 t340, .int .i64 t341, .int .i64 t342, .int .i64 t343, .int .i64 t344, .int .u64 t345, .int .i64 t346, .int .i64 t347, .int .i64 t348, .slice Ao58 t349.length co58, .string t352] 32 (0, 0))) := ⟨(by rw [hw]; exact (by (with_reducible repeat (first | refine blk_drewN ?_ _ | refine blk_drew ?_ | refine blk_alloc ?_ _)); refine blk_put (cs := #[.int .i64 t339, .int .i64 t340, .int .i64 t341, .int .i64 t342, .int .i64 t343, .int .i64 t344, .int .u64 t345, .int .i64 t346, .int .i64 t347, .int .i64 t348, .slice Ao58 t349.length co58, .string (⟨#[]⟩ : ByteArray)]) ?_ 11 _ rfl; (with_reducible repeat (first | refine blk_drewN ?_ _ | refine blk_drew ?_ | refine blk_alloc ?_ _)); refine blk_put (cs := #[.int .i64 t339, .int .i64 t340, .int .i64 t341, .int .i64 t342, .int .i64 t343, .int .i64 t344, .int .u64 t345, .int .i64 t346, .int .i64 t347, .int .i64 t348, .slice none 0 0, .string (⟨#[]⟩ : ByteArray)]) ?_ 10 _ rfl; (with_reducible repeat (first | refine blk_drewN ?_ _ | refine blk_drew ?_ | refine blk_alloc ?_ _)); refine blk_put (cs := #[.int .i64 t339, .int .i64 t340, .int .i64 t341, .int .i64 t342, .int .i64 t343, .int .i64 t344, .int .u64 t345, .int .i64 t346, .int .i64 t347, .int .i64 0, .slice none 0 0, .string (⟨#[]⟩ : ByteArray)]) ?_ 9 _ rfl; (with_reducible repeat (first | refine blk_drewN ?_ _ | refine blk_drew ?_ | refine blk_alloc ?_ _)); refine blk_put (cs := #[.int .i64 t339, .int .i64 t340, .int .i64 t341, .int .i64 t342, .int .i64 t343, .int .i64 t344, .int .u64 t345, .int .i64 t346, .int .i64 0, .int .i64 0, .slice none 0 0, .string (⟨#[]⟩ : ByteArray)]) ?_ 8 _ rfl; (with_reducible repeat (first | refine blk_drewN ?_ _ | refine blk_drew ?_ | refine blk_alloc ?_ _)); refine blk_put (cs := #[.int .i64 t339, .int .i64 t340, .int .i64 t341, .int .i64 t342, .int .i64 t343, .int .i64 t344, .int .u64 t345, .int .i64 0, .int .i64 0, .int .i64 0, .slice none 0 0, .string (⟨#[]⟩ : ByteArray)]) ?_ 7 _ rfl; (with_reducible repeat (first | refine blk_drewN ?_ _ | refine blk_drew ?_ | refine blk_alloc ?_ _)); refine blk_put (cs := #[.int .i64 t339, .int .i64 t340, .int .i64 t341, .int .i64 t342, .int .i64 t343, .int .i64 t344, .int .u64 0, .int .i64 0, .int .i64 0, .int .i64 0, .slice none 0 0, .string (⟨#[]⟩ : ByteArray)]) ?_ 6 _ rfl; (with_reducible repeat (first | refine blk_drewN ?_ _ | refine blk_drew ?_ | refine blk_alloc ?_ _)); refine blk_put (cs := #[.int .i64 t339, .int .i64 t340, .int .i64 t341, .int .i64 t342, .int .i64 t343, .int .i64 0, .int .u64 0, .int .i64 0, .int .i64 0, .int .i64 0, .slice none 0 0, .string (⟨#[]⟩ : ByteArray)]) ?_ 5 _ rfl; (with_reducible repeat (first | refine blk_drewN ?_ _ | refine blk_drew ?_ | refine blk_alloc ?_ _)); refine blk_put (cs := #[.int .i64 t339, .int .i64 t340, .int .i64 t341, .int .i64 t342, .int .i64 0, .int .i64 0, .int .u64 0, .int .i64 0, .int .i64 0, .int .i64 0, .slice none 0 0, .string (⟨#[]⟩ : ByteArray)]) ?_ 4 _ rfl; (with_reducible repeat (first | refine blk_drewN ?_ _ | refine blk_drew ?_ | refine blk_alloc ?_ _)); refine blk_put (cs := #[.int .i64 t339, .int .i64 t340, .int .i64 t341, .int .i64 0, .int .i64 0, .int .i64 0, .int .u64 0, .int .i64 0, .int .i64 0, .int .i64 0, .slice none 0 0, .string (⟨#[]⟩ : ByteArray)]) ?_ 3 _ rfl; (with_reducible repeat (first | refine blk_drewN ?_ _ | refine blk_drew ?_ | refine blk_alloc ?_ _)); refine blk_put (cs := #[.int .i64 t339, .int .i64 t340, .int .i64 0, .int .i64 0, .int .i64 0, .int .i64 0, .int .u64 0, .int .i64 0, .int .i64 0, .int .i64 0, .slice none 0 0, .string (⟨#[]⟩ : ByteArray)]) ?_ 2 _ rfl; (with_reducible repeat (first | refine blk_drewN ?_ _ | refine blk_drew ?_ | refine blk_alloc ?_ _)); refine blk_put (cs := #[.int .i64 t339, .int .i64 0, .int .i64 0, .int .i64 0, .int .i64 0, .int .i64 0, .int .u64 0, .int .i64 0, .int .i64 0, .int .i64 0, .slice none 0 0, .string (⟨#[]⟩ : ByteArray)]) ?_ 1 _ rfl; (with_reducible repeat (first | refine blk_drewN ?_ _ | refine blk_drew ?_ | refine blk_alloc ?_ _)); refine blk_put (cs := #[.int .i64 0, .int .i64 0, .int .i64 0, .int .i64 0, .int .i64 0, .int .i64 0, .int .u64 0, .int .i64 0, .int .i64 0, .int .i64 0, .slice none 0 0, .string (⟨#[]⟩ : ByteArray)]) ?_ 0 _ rfl; (with_reducible repeat (first | refine blk_drewN ?_ _ | refine blk_drew ?_ | refine blk_alloc ?_ _)); exact BK357.out))⟩; have n7_ : Aside0 (Below w.heap.size w w59) := ⟨(by rw [hw]; exact (by repeat (first | (with_reducible first | exact HB.out | apply below_alloc | apply pw_below_drewN | apply below_drew1 | refine below_set ?_ GE330.out | refine below_set ?_ GE357.out) | exact HB.out)))⟩; clear hw; clear HO_3; clear HO_4; clear HO_5; clear HO351; clear HO355; clear BK330; clear BK357; clear HB; have HO_3 := n0_; have HO_4 := n1_; have HO_5 := n2_; have HO351 := n3_; have HO355 := n4_; have BK330 := n5_; have BK357 := n6_; have HB := n7_; clear n0_ n1_ n2_ n3_ n4_ n5_ n6_ n7_; have hcz60_0 : w59.cell? ⟨gb357, 0, none⟩ = some (.int .i64 t339) := (blk_cell BK357.out 0).trans rfl; have hcz60_1 : w59.cell? ⟨gb357, 1, none⟩ = some (.int .i64 t340) := (blk_cell BK357.out 1).trans rfl; have hcz60_2 : w59.cell? ⟨gb357, 2, none⟩ = some (.int .i64 t341) := (blk_cell BK357.out 2).trans rfl; have hcz60_3 : w59.cell? ⟨gb357, 3, none⟩ = some (.int .i64 t342) := (blk_cell BK357.out 3).trans rfl; have hcz60_4 : w59.cell? ⟨gb357, 4, none⟩ = some (.int .i64 t343) := (blk_cell BK357.out 4).trans rfl; have hcz60_5 : w59.cell? ⟨gb357, 5, none⟩ = some (.int .i64 t344) := (blk_cell BK357.out 5).trans rfl; have hcz60_6 : w59.cell? ⟨gb357, 6, none⟩ = some (.int .u64 t345) := (blk_cell BK357.out 6).trans rfl; have hcz60_7 : w59.cell? ⟨gb357, 7, none⟩ = some (.int .i64 t346) := (blk_cell BK357.out 7).trans rfl; have hcz60_8 : w59.cell? ⟨gb357, 8, none⟩ = some (.int .i64 t347) := (blk_cell BK357.out 8).trans rfl; have hcz60_9 : w59.cell? ⟨gb357, 9, none⟩ = some (.int .i64 t348) := (blk_cell BK357.out 9).trans rfl; have hcz60_10 : w59.cell? ⟨gb357, 10, none⟩ = some (.slice Ao58 t349.length co58) := (blk_cell BK357.out 10).trans rfl; have hcz60_11 : w59.cell? ⟨gb357, 11, none⟩ = some (.string t352) := (blk_cell BK357.out 11).trans rfl; have hfz60_0 := blk_frozen BK357.out 0; have hfz60_1 := blk_frozen BK357.out 1; have hfz60_2 := blk_frozen BK357.out 2; have hfz60_3 := blk_frozen BK357.out 3; have hfz60_4 := blk_frozen BK357.out 4; have hfz60_5 := blk_frozen BK357.out 5; have hfz60_6 := blk_frozen BK357.out 6; have hfz60_7 := blk_frozen BK357.out 7; have hfz60_8 := blk_frozen BK357.out 8; have hfz60_9 := blk_frozen BK357.out 9; have hfz60_10 := blk_frozen BK357.out 10; have hfz60_11 := blk_frozen BK357.out 11) | ((with_reducible refine gate_builtin (b := .append) (xs := #[.tmp 65, .tmp 67]) rfl ?_); (try (refine gate_guard (by rfl) ?_; dsimp only)); at_builtin; refine Kd.N_append k32 (w0 := w) w.heap.size rfl (.tmp 65) (.tmp 67) 22 32 (.agg #[(.int .i64 0), (.int .i64 0), (.int .i64 0), (.int .i64 0), (.int .i64 0), (.int .i64 0), (.int .u64 0), (.int .i64 0), (.int .i64 0), (.int .i64 0), (.slice none 0 0), (.string ⟨#[]⟩)]) 120 rfl Try.underlying22 info32 rfl (by decide) (by omega) u5 x5_1 (⟨t339, t340, t341, t342, t343, t344, t345, (⟨t346, t347, t348, t349⟩ : S30), t352⟩ : S32) [.int .i64 t339, .int .i64 t340, .int .i64 t341, .int .i64 t342, .int .i64 t343, .int .i64 t344, .int .u64 t345, .int .i64 t346, .int .i64 t347, .int .i64 t348, .slice Ao58 t349.length co58, .string t352] (fun k_ => some k_ ≠ (u4 : Value).ownBlock ∧ some k_ ≠ (v354 : Value).ownBlock ∧ k_ ≠ gb330 ∧ k_ ≠ gb357) (fun k_ => ((fun k_ => some k_ ≠ (u4 : Value).ownBlock ∧ some k_ ≠ (v354 : Value).ownBlock ∧ k_ ≠ gb330 ∧ k_ ≠ gb357)) k_ ∧ some k_ ≠ (u5 : Value).ownBlock) rfl rfl ?aP (fun _ hk => hk) ?aF ?aO ?aB ?aS ?aL ?_; (case aP => exact (k32_mkF _ _ (⟨t339, t340, t341, t342, t343, t344, t345, (⟨t346, t347, t348, t349⟩ : S30), t352⟩ : S32) (Kd.V_reads' (Kd.V_mono (ok' := (fun k_ => ((fun k_ => some k_ ≠ (u4 : Value).ownBlock ∧ some k_ ≠ (v354 : Value).ownBlock ∧ k_ ≠ gb330 ∧ k_ ≠ gb357)) k_ ∧ some k_ ≠ (u5 : Value).ownBlock)) (HO351.out) (fun k_ hk => ⟨⟨hk.1, ⟨hk.2.2.1, ⟨hk.2.2.2.1, hk.2.2.2.2⟩⟩⟩, hk.2.1⟩))).2.1 (Kd.V_F (Kd.V_mono (ok' := (fun k_ => ((fun k_ => some k_ ≠ (u4 : Value).ownBlock ∧ some k_ ≠ (v354 : Value).ownBlock ∧ k_ ≠ gb330 ∧ k_ ≠ gb357)) k_ ∧ some k_ ≠ (u5 : Value).ownBlock)) (HO351.out) (fun k_ hk => ⟨⟨hk.1, ⟨hk.2.2.1, ⟨hk.2.2.2.1, hk.2.2.2.2⟩⟩⟩, hk.2.1⟩))))); (case aB => exact (by repeat (first | (with_reducible first | exact HB.out | apply below_alloc | apply pw_below_drewN | apply below_drew1 | refine below_set ?_ GE330.out | refine below_set ?_ GE357.out) | exact HB.out))); (case aF => exact (fun k_ hk => ⟨Kd.fresh' (Kd.N_lt (by (with_reducible repeat (first | apply Kd.N_alloc | apply Kd.N_drewN | apply Kd.N_drew)); exact HO_4.out)) k_ hk, Kd.fresh' (Kd.N_lt (by (with_reducible repeat (first | apply Kd.N_alloc | apply Kd.N_drewN | apply Kd.N_drew)); exact HO355.out)) k_ hk, Kd.freshB (g := gb330) (o := .cells #[.int .i64 ((rd_T42 l0 x6_1).f0), .int .i64 ((rd_T42 l0 x6_1).f1), .slice A329_2 ((rd_T42 l0 x6_1).f2).length c329_2] 42 (0, 0)) (by (with_reducible repeat (first | refine blk_drewN ?_ _ | refine blk_drew ?_ | refine blk_alloc ?_ _)); exact BK330.out) k_ hk, Kd.freshB (g := gb357) (o := .cells #[.int .i64 t339, .int .i64 t340, .int .i64 t341, .int .i64 t342, .int .i64 t343, .int .i64 t344, .int .u64 t345, .int .i64 t346, .int .i64 t347, .int .i64 t348, .slice Ao58 t349.length co58, .string t352] 32 (0, 0)) (by (with_reducible repeat (first | refine blk_drewN ?_ _ | refine blk_drew ?_ | refine blk_alloc ?_ _)); exact BK357.out) k_ hk⟩)); (case aO => exact (by (with_reducible repeat (first | apply Kd.N_alloc | apply Kd.N_drewN | apply Kd.N_drew)); exact Kd.N_mono HO_5.out (fun _ hk => ⟨hk.2.1, ⟨hk.2.2.1, ⟨hk.2.2.2.1, hk.2.2.2.2⟩⟩⟩))); (case aS => exact (below_size (by repeat (first | (with_reducible first | exact HB.out | apply below_alloc | apply pw_below_drewN | apply below_drew1 | refine below_set ?_ GE330.out | refine below_set ?_ GE357.out) | exact HB.out)))); (case aL => have := LMc39.out; omega); intro v359 w61 ho hb hg hat; rw [← Ny358.out] at ho; have n0_ := Aside0.mk (Kd.N_afterv (ok := (fun k_ => some k_ ≠ (u4 : Value).ownBlock ∧ some k_ ≠ (v354 : Value).ownBlock ∧ k_ ≠ gb330 ∧ k_ ≠ gb357)) (by (with_reducible repeat (first | apply Kd.N_alloc | apply Kd.N_drewN | apply Kd.N_drew)); exact Kd.N_mono HO_3.out (fun _ hk => ⟨⟨hk.1, ⟨hk.2.2.1, ⟨hk.2.2.2.1, hk.2.2.2.2⟩⟩⟩, hk.2.1⟩)) hg hat); have n1_ := Aside0.mk (Kd.N_afterv (ok := (fun k_ => some k_ ≠ (.slice Ao53 x3_1.length co53 : Value).ownBlock ∧ some k_ ≠ (v354 : Value).ownBlock ∧ k_ ≠ gb330 ∧ k_ ≠ gb357)) (by (with_reducible repeat (first | apply Kd.N_alloc | apply Kd.N_drewN | apply Kd.N_drew)); exact Kd.N_mono HO_4.out (fun _ hk => ⟨⟨hk.1, ⟨hk.2.2.1, ⟨hk.2.2.2.1, hk.2.2.2.2⟩⟩⟩, hk.2.1⟩)) hg hat); have n2_ := Aside0.mk (blk_grown (g := gb330) (o := .cells #[.int .i64 ((rd_T42 l0 x6_1).f0), .int .i64 ((rd_T42 l0 x6_1).f1), .slice A329_2 ((rd_T42 l0 x6_1).f2).length c329_2] 42 (0, 0)) (by (with_reducible repeat (first | refine blk_drewN ?_ _ | refine blk_drew ?_ | refine blk_alloc ?_ _)); exact BK330.out) hg (Kd.N_ne HO_5.out BK330.out (by decide))); have n3_ := Aside0.mk (Kd.V_afterv (ok := (fun k_ => some k_ ≠ (u4 : Value).ownBlock ∧ some k_ ≠ (v354 : Value).ownBlock ∧ k_ ≠ gb330 ∧ k_ ≠ gb357)) (by (with_reducible repeat (first | apply Kd.V_alloc | apply Kd.V_drewN | apply Kd.V_drew)); exact Kd.V_mono HO351.out (fun _ hk => ⟨⟨hk.1, ⟨hk.2.2.1, ⟨hk.2.2.2.1, hk.2.2.2.2⟩⟩⟩, hk.2.1⟩)) hg hat); have n4_ := Aside0.mk (Kd.N_afterv (ok := (fun k_ => some k_ ≠ (u4 : Value).ownBlock ∧ k_ ≠ gb330 ∧ k_ ≠ gb357)) (by (with_reducible repeat (first | apply Kd.N_alloc | apply Kd.N_drewN | apply Kd.N_drew)); exact Kd.N_mono HO355.out (fun _ hk => ⟨⟨hk.1, ⟨hk.2.2.1, hk.2.2.2⟩⟩, hk.2.1⟩)) hg hat); have n5_ := Aside0.mk (blk_grown (g := gb357) (o := .cells #[.int .i64 t339, .int .i64 t340, .int .i64 t341, .int .i64 t342, .int .i64 t343, .int .i64 t344, .int .u64 t345, .int .i64 t346, .int .i64 t347, .int .i64 t348, .slice Ao58 t349.length co58, .string t352] 32 (0, 0)) (by (with_reducible repeat (first | refine blk_drewN ?_ _ | refine blk_drew ?_ | refine blk_alloc ?_ _)); exact BK357.out) hg (Kd.N_away HO_5.out (fun _ hk => hk.2.2.2.2))); have n6_ := Aside0.mk (hb); have n7_ := Aside0.mk (ho); clear HO_3; clear HO_4; clear BK330; clear HO351; clear HO355; clear BK357; clear HB; clear HO_5; have HO_3 := n0_; have HO_4 := n1_; have BK330 := n2_; have HO351 := n3_; have HO355 := n4_; have BK357 := n5_; have HB := n6_; have HO360 := n7_; clear n0_ n1_ n2_ n3_ n4_ n5_ n6_ n7_; clear ho hb hg hat; obtain ⟨Ao62, co62, eo62⟩ := Kd.N_slice HO355.out; subst eo62))
                            go_roundg kj6
                            case measure => have := HK1.out; have := HJ6.out; omega
                            case rel => exact ⟨(t353), (x4_1), (y358), (wrap64 (x6_1 + 1)), (by first | rfl | (simp; done) | (simp [*]; done)), H', ⟨by have := HK1.out; have := HJ6.out; omega⟩, ⟨by (with_reducible repeat (first | apply Kd.N_alloc | apply Kd.N_drewN | apply Kd.N_drew)); exact Kd.N_mono HO355.out (fun _ hk => ⟨hk.1.1, hk.2⟩)⟩, ⟨by (with_reducible repeat (first | apply Kd.N_alloc | apply Kd.N_drewN | apply Kd.N_drew)); exact Kd.N_mono HO_4.out (fun _ hk => ⟨hk.1.2.1, hk.2⟩)⟩, ⟨by (with_reducible repeat (first | apply Kd.N_alloc | apply Kd.N_drewN | apply Kd.N_drew)); exact Kd.N_mono HO360.out (fun _ hk => ⟨hk.2.1, hk.1⟩)⟩, ⟨by repeat (first | (with_reducible first | exact HB.out | apply below_alloc | apply pw_below_drewN | apply below_drew1 | refine below_set ?_ GE330.out | refine below_set ?_ GE357.out) | exact HB.out)⟩⟩
                        · rw [if_neg c39] at H
                          exact absurd H (by simp)
                      · rw [if_neg c38] at H
                        have c38b0 : (t356 == 0) = false := beq_eq_false_iff_ne.mpr c38
                        have c38b1 : (t356 != 0) = true := bne_iff_ne.mpr c38
                        by_cases c63 : (x3_1.length : Int) > 256
                        · rw [if_pos c63] at H
                          exact absurd ((Option.some.inj H).trans Hr.out) (by simp)
                        · rw [if_neg c63] at H
                          have c63b0 : decide (256 < (x3_1.length : Int)) = false := decide_eq_false c63
                          have c63b1 : decide (256 < x3_1.length) = false := decide_eq_false (by omega)
                          clear c63
                          have H' := Aside0.mk H
                          clear H
                          have hcz71_0 : wc.cell? ⟨gb330, 0, none⟩ = some (.int .i64 ((rd_T42 l0 x6_1).f0)) := (blk_cell BK330.out 0).trans rfl
                          have hcz71_1 : wc.cell? ⟨gb330, 1, none⟩ = some (.int .i64 ((rd_T42 l0 x6_1).f1)) := (blk_cell BK330.out 1).trans rfl
                          have hcz71_2 : wc.cell? ⟨gb330, 2, none⟩ = some (.slice A329_2 ((rd_T42 l0 x6_1).f2).length c329_2) := (blk_cell BK330.out 2).trans rfl
                          have hfz71_0 := blk_frozen BK330.out 0
                          have hfz71_1 := blk_frozen BK330.out 1
                          have hfz71_2 := blk_frozen BK330.out 2
                          obtain ⟨Ao72, co72, eo72⟩ := Kd.N_slice HO_3.out
                          subst eo72
                          go_wp2_with (first | ((with_reducible refine gate_callee (f := 12) rfl ?_); refine goesL_ (some 58) rfl rfl Try.func12 (by kernel_rfl) rfl #[.slice Ao72 x3_1.length co72, .int .i64 ((rd_T42 l0 x6_1).f1)] rfl (by (try simp only [List.map_toArray, List.map_cons, List.map_nil]); first | done | rfl | (simp only [List.length_drop, List.length_take]; rfl)) ?_; (with_reducible refine (net_Deliver.calls (fun k_ => (some k_ ≠ (u4 : Value).ownBlock ∧ (some k_ ≠ (u5 : Value).ownBlock ∧ k_ ≠ gb330))) _ _ x3_1 ((rd_T42 l0 x6_1).f1) t339 t340 t341 t342 t343 t344 t345 t346 t347 t348 t349 t352 t353 t356 _ ?side1 A37.out).mono ?_); (case side1 => exact Kd.N_V (HO_3.out)); rintro e w73 ⟨v350, v354, rfl, ho0, ho1, hb⟩; refine ⟨_, rfl, ?_⟩; have n0_ := Aside0.mk (Kd.N_elder' (by (with_reducible repeat (first | apply Kd.N_alloc | apply Kd.N_drewN | apply Kd.N_drew)); exact HO_3.out) (Kd.N_base ho1) hb); have n1_ := Aside0.mk (Kd.N_elder' (by (with_reducible repeat (first | apply Kd.N_alloc | apply Kd.N_drewN | apply Kd.N_drew)); exact HO_4.out) (Kd.N_base ho1) hb); have n2_ := Aside0.mk (Kd.N_elder' (by (with_reducible repeat (first | apply Kd.N_alloc | apply Kd.N_drewN | apply Kd.N_drew)); exact HO_5.out) (Kd.N_base ho1) hb); have n3_ := Aside0.mk (Kd.V_lower (Kd.V_mono (ok' := fun k_ => some k_ ≠ (v354 : Value).ownBlock ∧ some k_ ≠ (u4 : Value).ownBlock ∧ some k_ ≠ (u5 : Value).ownBlock ∧ k_ ≠ gb330) ho0 (fun k_ hk_ => ⟨hk_.2, Or.elim hk_.1 (fun hs_ => hs_.1) (fun hn_ => (Kd.fresh' (Kd.N_lt (by (with_reducible repeat (first | apply Kd.N_alloc | apply Kd.N_drewN | apply Kd.N_drew)); exact HO_4.out)) k_ hn_)), Or.elim hk_.1 (fun hs_ => hs_.2.1) (fun hn_ => (Kd.fresh' (Kd.N_lt (by (with_reducible repeat (first | apply Kd.N_alloc | apply Kd.N_drewN | apply Kd.N_drew)); exact HO_5.out)) k_ hn_)), Or.elim hk_.1 (fun hs_ => hs_.2.2) (fun hn_ => (Kd.freshB (g := gb330) (o := .cells #[.int .i64 ((rd_T42 l0 x6_1).f0), .int .i64 ((rd_T42 l0 x6_1).f1), .slice A329_2 ((rd_T42 l0 x6_1).f2).length c329_2] 42 (0, 0)) (by (with_reducible repeat (first | refine blk_drewN ?_ _ | refine blk_drew ?_ | refine blk_alloc ?_ _)); exact BK330.out) k_ hn_))⟩)) (below_size (by repeat (first | (with_reducible first | exact HB.out | apply below_alloc | apply pw_below_drewN | apply below_drew1 | refine below_set ?_ GE330.out) | exact HB.out)))); have n4_ := Aside0.mk (Kd.N_lower (Kd.N_mono (ok' := fun k_ => some k_ ≠ (u4 : Value).ownBlock ∧ some k_ ≠ (u5 : Value).ownBlock ∧ k_ ≠ gb330) ho1 (fun k_ hk_ => ⟨Or.elim hk_ (fun hs_ => hs_.1) (fun hn_ => (Kd.fresh' (Kd.N_lt (by (with_reducible repeat (first | apply Kd.N_alloc | apply Kd.N_drewN | apply Kd.N_drew)); exact HO_4.out)) k_ hn_)), Or.elim hk_ (fun hs_ => hs_.2.1) (fun hn_ => (Kd.fresh' (Kd.N_lt (by (with_reducible repeat (first | apply Kd.N_alloc | apply Kd.N_drewN | apply Kd.N_drew)); exact HO_5.out)) k_ hn_)), Or.elim hk_ (fun hs_ => hs_.2.2) (fun hn_ => (Kd.freshB (g := gb330) (o := .cells #[.int .i64 ((rd_T42 l0 x6_1).f0), .int .i64 ((rd_T42 l0 x6_1).f1), .slice A329_2 ((rd_T42 l0 x6_1).f2).length c329_2] 42 (0, 0)) (by (with_reducible repeat (first | refine blk_drewN ?_ _ | refine blk_drew ?_ | refine blk_alloc ?_ _)); exact BK330.out) k_ hn_))⟩)) (below_size (by repeat (first | (with_reducible first | exact HB.out | apply below_alloc | apply pw_below_drewN | apply below_drew1 | refine below_set ?_ GE330.out) | exact HB.out)))); have n5_ := Aside0.mk (blk_below (g := gb330) (o := .cells #[.int .i64 ((rd_T42 l0 x6_1).f0), .int .i64 ((rd_T42 l0 x6_1).f1), .slice A329_2 ((rd_T42 l0 x6_1).f2).length c329_2] 42 (0, 0)) (by (with_reducible repeat (first | refine blk_drewN ?_ _ | refine blk_drew ?_ | refine blk_alloc ?_ _)); exact BK330.out) hb); have n6_ := Aside0.mk (below_step (by repeat (first | (with_reducible first | exact HB.out | apply below_alloc | apply pw_below_drewN | apply below_drew1 | refine below_set ?_ GE330.out) | exact HB.out)) hb); clear HO_3; clear HO_4; clear HO_5; clear BK330; clear HB; have HO_3 := n0_; have HO_4 := n1_; have HO_5 := n2_; have HO351 := n3_; have HO355 := n4_; have BK330 := n5_; have HB := n6_; clear n0_ n1_ n2_ n3_ n4_ n5_ n6_; (try clear hb); (try clear hb2); (try clear hk); (try clear hi); (try clear ho0); (try clear ho1)) | ((with_reducible refine gate_dst (N := 8) rfl ?_); (try (refine gate_guard (by rfl) ?_; dsimp only)); refine box_event ?hg (N := 8) ?hd (cs := #[.int .i64 0, .int .i64 0, .int .i64 0, .int .i64 0, .int .i64 0, .int .i64 0, .int .u64 0, .int .i64 0, .int .i64 0, .int .i64 0, .slice none 0 0, .string (⟨#[]⟩ : ByteArray)]) (t := 32) ?hr ?_; (case hd => rfl); (case hg => rfl); (case hr => first | (go_simp; done) | (go_simp; rfl)); intro gb357 hg w74 hbox hb; have n0_ := Aside0.mk (Kd.N_below (Kd.N_elderB (by (with_reducible repeat (first | apply Kd.N_alloc | apply Kd.N_drewN | apply Kd.N_drew)); exact HO_3.out) gb357 (Nat.le_of_eq hg.symm)) hb); have n1_ := Aside0.mk (Kd.N_below (Kd.N_elderB (by (with_reducible repeat (first | apply Kd.N_alloc | apply Kd.N_drewN | apply Kd.N_drew)); exact HO_4.out) gb357 (Nat.le_of_eq hg.symm)) hb); have n2_ := Aside0.mk (Kd.N_below (Kd.N_elderB (by (with_reducible repeat (first | apply Kd.N_alloc | apply Kd.N_drewN | apply Kd.N_drew)); exact HO_5.out) gb357 (Nat.le_of_eq hg.symm)) hb); have n3_ := Aside0.mk (Kd.V_below (Kd.V_elderB (by (with_reducible repeat (first | apply Kd.V_alloc | apply Kd.V_drewN | apply Kd.V_drew)); exact HO351.out) gb357 (Nat.le_of_eq hg.symm)) hb); have n4_ := Aside0.mk (Kd.N_below (Kd.N_elderB (by (with_reducible repeat (first | apply Kd.N_alloc | apply Kd.N_drewN | apply Kd.N_drew)); exact HO355.out) gb357 (Nat.le_of_eq hg.symm)) hb); have n5_ := Aside0.mk (blk_below (g := gb330) (o := .cells #[.int .i64 ((rd_T42 l0 x6_1).f0), .int .i64 ((rd_T42 l0 x6_1).f1), .slice A329_2 ((rd_T42 l0 x6_1).f2).length c329_2] 42 (0, 0)) (by (with_reducible repeat (first | refine blk_drewN ?_ _ | refine blk_drew ?_ | refine blk_alloc ?_ _)); exact BK330.out) hb); have n6_ := Aside0.mk (below_step (by repeat (first | (with_reducible first | exact HB.out | apply below_alloc | apply pw_below_drewN | apply below_drew1 | refine below_set ?_ GE330.out) | exact HB.out)) hb); have n7_ := Aside0.mk (hbox); have n8_ := Aside0.mk ((by rw [hg]; exact (below_size (by repeat (first | (with_reducible first | exact HB.out | apply below_alloc | apply pw_below_drewN | apply below_drew1 | refine below_set ?_ GE330.out) | exact HB.out))) : w.heap.size ≤ gb357)); have n9_ := Aside0.mk ((by rw [hg]; exact (below_size (by repeat (first | (with_reducible first | exact HB.out | apply below_alloc | apply pw_below_drewN | apply below_drew1 | refine below_set ?_ GE330.out) | exact HB.out))) : w.heap.size ≤ gb357)); have n10_ := Aside0.mk ((by rw [hg]; exact Nat.ne_of_lt (blk_lt (g := gb330) (o := .cells #[.int .i64 ((rd_T42 l0 x6_1).f0), .int .i64 ((rd_T42 l0 x6_1).f1), .slice A329_2 ((rd_T42 l0 x6_1).f2).length c329_2] 42 (0, 0)) (by (with_reducible repeat (first | refine blk_drewN ?_ _ | refine blk_drew ?_ | refine blk_alloc ?_ _)); exact BK330.out)) : gb330 ≠ gb357)); have n11_ := Aside0.mk ((by rw [hg]; exact Nat.ne_of_gt (blk_lt (g := gb330) (o := .cells #[.int .i64 ((rd_T42 l0 x6_1).f0), .int .i64 ((rd_T42 l0 x6_1).f1), .slice A329_2 ((rd_T42 l0 x6_1).f2).length c329_2] 42 (0, 0)) (by (with_reducible repeat (first | refine blk_drewN ?_ _ | refine blk_drew ?_ | refine blk_alloc ?_ _)); exact BK330.out)) : gb357 ≠ gb330)); clear HO_3; clear HO_4; clear HO_5; clear HO351; clear HO355; clear BK330; clear HB; have HO_3 := n0_; have HO_4 := n1_; have HO_5 := n2_; have HO351 := n3_; have HO355 := n4_; have BK330 := n5_; have HB := n6_; have BK357 := n7_; have GW357 := n8_; have GE357 := n9_; have NB330_357 := n10_; have NB357_330 := n11_; clear n0_ n1_ n2_ n3_ n4_ n5_ n6_ n7_ n8_ n9_ n10_ n11_; clear hb hbox hg; have hnb75 := NB357_330.out; have hnc75 := NB330_357.out; have hcz76_0 : w74.cell? ⟨gb357, 0, none⟩ = some (.int .i64 0) := (blk_cell BK357.out 0).trans rfl; have hcz76_1 : w74.cell? ⟨gb357, 1, none⟩ = some (.int .i64 0) := (blk_cell BK357.out 1).trans rfl; have hcz76_2 : w74.cell? ⟨gb357, 2, none⟩ = some (.int .i64 0) := (blk_cell BK357.out 2).trans rfl; have hcz76_3 : w74.cell? ⟨gb357, 3, none⟩ = some (.int .i64 0) := (blk_cell BK357.out 3).trans rfl; have hcz76_4 : w74.cell? ⟨gb357, 4, none⟩ = some (.int .i64 0) := (blk_cell BK357.out 4).trans rfl; have hcz76_5 : w74.cell? ⟨gb357, 5, none⟩ = some (.int .i64 0) := (blk_cell BK357.out 5).trans rfl; have hcz76_6 : w74.cell? ⟨gb357, 6, none⟩ = some (.int .u64 0) := (blk_cell BK357.out 6).trans rfl; have hcz76_7 : w74.cell? ⟨gb357, 7, none⟩ = some (.int .i64 0) := (blk_cell BK357.out 7).trans rfl; have hcz76_8 : w74.cell? ⟨gb357, 8, none⟩ = some (.int .i64 0) := (blk_cell BK357.out 8).trans rfl; have hcz76_9 : w74.cell? ⟨gb357, 9, none⟩ = some (.int .i64 0) := (blk_cell BK357.out 9).trans rfl; have hcz76_10 : w74.cell? ⟨gb357, 10, none⟩ = some (.slice none 0 0) := (blk_cell BK357.out 10).trans rfl; have hcz76_11 : w74.cell? ⟨gb357, 11, none⟩ = some (.string (⟨#[]⟩ : ByteArray)) := (blk_cell BK357.out 11).trans rfl; have hfz76_0 := blk_frozen BK357.out 0; have hfz76_1 := blk_frozen BK357.out 1; have hfz76_2 := blk_frozen BK357.out 2; have hfz76_3 := blk_frozen BK357.out 3; have hfz76_4 := blk_frozen BK357.out 4; have hfz76_5 := blk_frozen BK357.out 5; have hfz76_6 := blk_frozen BK357.out 6; have hfz76_7 := blk_frozen BK357.out 7; have hfz76_8 := blk_frozen BK357.out 8; have hfz76_9 := blk_frozen BK357.out 9; have hfz76_10 := blk_frozen BK357.out 10; have hfz76_11 := blk_frozen BK357.out 11; obtain ⟨Ao77, co77, eo77⟩ := Kd.V_slice HO351.out; subst eo77))
                          go_roundg kj6
                          case measure => have := HK1.out; have := HJ6.out; omega
                          case rel => exact ⟨(x3_1), (x4_1), (x5_1), (wrap64 (x6_1 + 1)), (by first | rfl | (simp; done) | (simp [*]; done)), H', ⟨by have := HK1.out; have := HJ6.out; omega⟩, ⟨by (with_reducible repeat (first | apply Kd.N_alloc | apply Kd.N_drewN | apply Kd.N_drew)); exact Kd.N_mono (Kd.N_far (p := ⟨gb357, 11, none⟩) (Kd.N_far (p := ⟨gb357, 10, none⟩) (Kd.N_far (p := ⟨gb357, 9, none⟩) (Kd.N_far (p := ⟨gb357, 8, none⟩) (Kd.N_far (p := ⟨gb357, 7, none⟩) (Kd.N_far (p := ⟨gb357, 6, none⟩) (Kd.N_far (p := ⟨gb357, 5, none⟩) (Kd.N_far (p := ⟨gb357, 4, none⟩) (Kd.N_far (p := ⟨gb357, 3, none⟩) (Kd.N_far (p := ⟨gb357, 2, none⟩) (Kd.N_far (p := ⟨gb357, 1, none⟩) (Kd.N_far (p := ⟨gb357, 0, none⟩) (Kd.N_mono HO_3.out (fun k_ hk => (⟨hk, hk.2⟩ : _ ∧ k_ ≠ gb357))) (fun _ hk => hk.2) (.int .i64 t339)) (fun _ hk => hk.2) (.int .i64 t340)) (fun _ hk => hk.2) (.int .i64 t341)) (fun _ hk => hk.2) (.int .i64 t342)) (fun _ hk => hk.2) (.int .i64 t343)) (fun _ hk => hk.2) (.int .i64 t344)) (fun _ hk => hk.2) (.int .u64 t345)) (fun _ hk => hk.2) (.int .i64 t346)) (fun _ hk => hk.2) (.int .i64 t347)) (fun _ hk => hk.2) (.int .i64 t348)) (fun _ hk => hk.2) (.slice Ao77 t349.length co77)) (fun _ hk => hk.2) (.string t352)) (fun _ hk => ⟨hk.1.1.1.1, hk.1.1.1.2.1⟩)⟩, ⟨by (with_reducible repeat (first | apply Kd.N_alloc | apply Kd.N_drewN | apply Kd.N_drew)); exact Kd.N_mono (Kd.N_far (p := ⟨gb357, 11, none⟩) (Kd.N_far (p := ⟨gb357, 10, none⟩) (Kd.N_far (p := ⟨gb357, 9, none⟩) (Kd.N_far (p := ⟨gb357, 8, none⟩) (Kd.N_far (p := ⟨gb357, 7, none⟩) (Kd.N_far (p := ⟨gb357, 6, none⟩) (Kd.N_far (p := ⟨gb357, 5, none⟩) (Kd.N_far (p := ⟨gb357, 4, none⟩) (Kd.N_far (p := ⟨gb357, 3, none⟩) (Kd.N_far (p := ⟨gb357, 2, none⟩) (Kd.N_far (p := ⟨gb357, 1, none⟩) (Kd.N_far (p := ⟨gb357, 0, none⟩) (Kd.N_mono HO_4.out (fun k_ hk => (⟨hk, hk.2⟩ : _ ∧ k_ ≠ gb357))) (fun _ hk => hk.2) (.int .i64 t339)) (fun _ hk => hk.2) (.int .i64 t340)) (fun _ hk => hk.2) (.int .i64 t341)) (fun _ hk => hk.2) (.int .i64 t342)) (fun _ hk => hk.2) (.int .i64 t343)) (fun _ hk => hk.2) (.int .i64 t344)) (fun _ hk => hk.2) (.int .u64 t345)) (fun _ hk => hk.2) (.int .i64 t346)) (fun _ hk => hk.2) (.int .i64 t347)) (fun _ hk => hk.2) (.int .i64 t348)) (fun _ hk => hk.2) (.slice Ao77 t349.length co77)) (fun _ hk => hk.2) (.string t352)) (fun _ hk => ⟨hk.1.1.1.1, hk.1.1.1.2.1⟩)⟩, ⟨by (with_reducible repeat (first | apply Kd.N_alloc | apply Kd.N_drewN | apply Kd.N_drew)); exact Kd.N_mono (Kd.N_far (p := ⟨gb357, 11, none⟩) (Kd.N_far (p := ⟨gb357, 10, none⟩) (Kd.N_far (p := ⟨gb357, 9, none⟩) (Kd.N_far (p := ⟨gb357, 8, none⟩) (Kd.N_far (p := ⟨gb357, 7, none⟩) (Kd.N_far (p := ⟨gb357, 6, none⟩) (Kd.N_far (p := ⟨gb357, 5, none⟩) (Kd.N_far (p := ⟨gb357, 4, none⟩) (Kd.N_far (p := ⟨gb357, 3, none⟩) (Kd.N_far (p := ⟨gb357, 2, none⟩) (Kd.N_far (p := ⟨gb357, 1, none⟩) (Kd.N_far (p := ⟨gb357, 0, none⟩) (Kd.N_mono HO_5.out (fun k_ hk => (⟨hk, hk.2⟩ : _ ∧ k_ ≠ gb357))) (fun _ hk => hk.2) (.int .i64 t339)) (fun _ hk => hk.2) (.int .i64 t340)) (fun _ hk => hk.2) (.int .i64 t341)) (fun _ hk => hk.2) (.int .i64 t342)) (fun _ hk => hk.2) (.int .i64 t343)) (fun _ hk => hk.2) (.int .i64 t344)) (fun _ hk => hk.2) (.int .u64 t345)) (fun _ hk => hk.2) (.int .i64 t346)) (fun _ hk => hk.2) (.int .i64 t347)) (fun _ hk => hk.2) (.int .i64 t348)) (fun _ hk => hk.2) (.slice Ao77 t349.length co77)) (fun _ hk => hk.2) (.string t352)) (fun _ hk => ⟨hk.1.1.1.1, hk.1.1.1.2.1⟩)⟩, ⟨by repeat (first | (with_reducible first | exact HB.out | apply below_alloc | apply pw_below_drewN | apply below_drew1 | refine below_set ?_ GE330.out | refine below_set ?_ GE357.out) | exact HB.out)⟩⟩
                    · rw [if_neg c36] at H
                      have c36b0 : (((rd_T42 l0 x6_1).f0) == 2) = false := beq_eq_false_iff_ne.mpr c36
                      have c36b1 : (((rd_T42 l0 x6_1).f0) != 2) = true := bne_iff_ne.mpr c36
                      by_cases c78 : ((rd_T42 l0 x6_1).f0) = 3
                      · rw [if_pos c78] at H
                        have c78b0 : (((rd_T42 l0 x6_1).f0) == 3) = true := beq_iff_eq.mpr c78
                        have c78b1 : (((rd_T42 l0 x6_1).f0) != 3) = false := bne_eq_false_iff_eq.mpr c78
                        clear c78
                        replace H := Option.bind_eq_some_iff.mp H
                        obtain ⟨⟨t361, t364⟩, A790, H⟩ := H
                        replace H : (if t364 = 0 then (if (t361.length : Int) > 256 then (some false) else (skirmishlaw48_NetKeeps.l0 kj6 l0 t361 x4_1 x5_1 (wrap64 (x6_1 + 1)))) else (if (x3_1.length : Int) > 256 then (some false) else (skirmishlaw48_NetKeeps.l0 kj6 l0 x3_1 x4_1 x5_1 (wrap64 (x6_1 + 1))))) = some r := H
                        have A79 := Aside0.mk A790
                        clear A790
                        by_cases c80 : t364 = 0
                        · rw [if_pos c80] at H
                          have c80b0 : (t364 == 0) = true := beq_iff_eq.mpr c80
                          have c80b1 : (t364 != 0) = false := bne_eq_false_iff_eq.mpr c80
                          clear c80
                          by_cases c81 : (t361.length : Int) > 256
                          · rw [if_pos c81] at H
                            exact absurd ((Option.some.inj H).trans Hr.out) (by simp)
                          · rw [if_neg c81] at H
                            have c81b0 : decide (256 < (t361.length : Int)) = false := decide_eq_false c81
                            have c81b1 : decide (256 < t361.length) = false := decide_eq_false (by omega)
                            clear c81
                            have H' := Aside0.mk H
                            clear H
                            have hcz86_0 : wc.cell? ⟨gb330, 0, none⟩ = some (.int .i64 ((rd_T42 l0 x6_1).f0)) := (blk_cell BK330.out 0).trans rfl
                            have hcz86_1 : wc.cell? ⟨gb330, 1, none⟩ = some (.int .i64 ((rd_T42 l0 x6_1).f1)) := (blk_cell BK330.out 1).trans rfl
                            have hcz86_2 : wc.cell? ⟨gb330, 2, none⟩ = some (.slice A329_2 ((rd_T42 l0 x6_1).f2).length c329_2) := (blk_cell BK330.out 2).trans rfl
                            have hfz86_0 := blk_frozen BK330.out 0
                            have hfz86_1 := blk_frozen BK330.out 1
                            have hfz86_2 := blk_frozen BK330.out 2
                            obtain ⟨Ao87, co87, eo87⟩ := Kd.N_slice HO_3.out
                            subst eo87
                            go_wp2_with (first | ((with_reducible refine gate_callee (f := 14) rfl ?_); refine goesL_ (some 75) rfl rfl Try.func14 (by kernel_rfl) rfl #[.slice Ao87 x3_1.length co87, .int .i64 ((rd_T42 l0 x6_1).f1)] rfl (by (try simp only [List.map_toArray, List.map_cons, List.map_nil]); first | done | rfl | (simp only [List.length_drop, List.length_take]; rfl)) ?_; (with_reducible refine (net_Drop.calls (fun k_ => (some k_ ≠ (u4 : Value).ownBlock ∧ (some k_ ≠ (u5 : Value).ownBlock ∧ k_ ≠ gb330))) _ _ x3_1 ((rd_T42 l0 x6_1).f1) t361 t364 _ ?side1 A79.out).mono ?_); (case side1 => exact Kd.N_V (HO_3.out)); rintro e w88 ⟨v362, rfl, ho0, hb⟩; refine ⟨_, rfl, ?_⟩; have n0_ := Aside0.mk (Kd.N_elder' (by (with_reducible repeat (first | apply Kd.N_alloc | apply Kd.N_drewN | apply Kd.N_drew)); exact HO_3.out) (Kd.N_base ho0) hb); have n1_ := Aside0.mk (Kd.N_elder' (by (with_reducible repeat (first | apply Kd.N_alloc | apply Kd.N_drewN | apply Kd.N_drew)); exact HO_4.out) (Kd.N_base ho0) hb); have n2_ := Aside0.mk (Kd.N_elder' (by (with_reducible repeat (first | apply Kd.N_alloc | apply Kd.N_drewN | apply Kd.N_drew)); exact HO_5.out) (Kd.N_base ho0) hb); have n3_ := Aside0.mk (Kd.N_lower (Kd.N_mono (ok' := fun k_ => some k_ ≠ (u4 : Value).ownBlock ∧ some k_ ≠ (u5 : Value).ownBlock ∧ k_ ≠ gb330) ho0 (fun k_ hk_ => ⟨Or.elim hk_ (fun hs_ => hs_.1) (fun hn_ => (Kd.fresh' (Kd.N_lt (by (with_reducible repeat (first | apply Kd.N_alloc | apply Kd.N_drewN | apply Kd.N_drew)); exact HO_4.out)) k_ hn_)), Or.elim hk_ (fun hs_ => hs_.2.1) (fun hn_ => (Kd.fresh' (Kd.N_lt (by (with_reducible repeat (first | apply Kd.N_alloc | apply Kd.N_drewN | apply Kd.N_drew)); exact HO_5.out)) k_ hn_)), Or.elim hk_ (fun hs_ => hs_.2.2) (fun hn_ => (Kd.freshB (g := gb330) (o := .cells #[.int .i64 ((rd_T42 l0 x6_1).f0), .int .i64 ((rd_T42 l0 x6_1).f1), .slice A329_2 ((rd_T42 l0 x6_1).f2).length c329_2] 42 (0, 0)) (by (with_reducible repeat (first | refine blk_drewN ?_ _ | refine blk_drew ?_ | refine blk_alloc ?_ _)); exact BK330.out) k_ hn_))⟩)) (below_size (by repeat (first | (with_reducible first | exact HB.out | apply below_alloc | apply pw_below_drewN | apply below_drew1 | refine below_set ?_ GE330.out) | exact HB.out)))); have n4_ := Aside0.mk (blk_below (g := gb330) (o := .cells #[.int .i64 ((rd_T42 l0 x6_1).f0), .int .i64 ((rd_T42 l0 x6_1).f1), .slice A329_2 ((rd_T42 l0 x6_1).f2).length c329_2] 42 (0, 0)) (by (with_reducible repeat (first | refine blk_drewN ?_ _ | refine blk_drew ?_ | refine blk_alloc ?_ _)); exact BK330.out) hb); have n5_ := Aside0.mk (below_step (by repeat (first | (with_reducible first | exact HB.out | apply below_alloc | apply pw_below_drewN | apply below_drew1 | refine below_set ?_ GE330.out) | exact HB.out)) hb); clear HO_3; clear HO_4; clear HO_5; clear BK330; clear HB; have HO_3 := n0_; have HO_4 := n1_; have HO_5 := n2_; have HO363 := n3_; have BK330 := n4_; have HB := n5_; clear n0_ n1_ n2_ n3_ n4_ n5_; (try clear hb); (try clear hb2); (try clear hk); (try clear hi); (try clear ho0); obtain ⟨Ao89, co89, eo89⟩ := Kd.N_slice HO363.out; subst eo89))
                            go_roundg kj6
                            case measure => have := HK1.out; have := HJ6.out; omega
                            case rel => exact ⟨(t361), (x4_1), (x5_1), (wrap64 (x6_1 + 1)), (by first | rfl | (simp; done) | (simp [*]; done)), H', ⟨by have := HK1.out; have := HJ6.out; omega⟩, ⟨by (with_reducible repeat (first | apply Kd.N_alloc | apply Kd.N_drewN | apply Kd.N_drew)); exact Kd.N_mono HO363.out (fun _ hk => ⟨hk.1, hk.2.1⟩)⟩, ⟨by (with_reducible repeat (first | apply Kd.N_alloc | apply Kd.N_drewN | apply Kd.N_drew)); exact Kd.N_mono HO_4.out (fun _ hk => ⟨hk.2, hk.1.2.1⟩)⟩, ⟨by (with_reducible repeat (first | apply Kd.N_alloc | apply Kd.N_drewN | apply Kd.N_drew)); exact Kd.N_mono HO_5.out (fun _ hk => ⟨hk.2, hk.1.2.1⟩)⟩, ⟨by repeat (first | (with_reducible first | exact HB.out | apply below_alloc | apply pw_below_drewN | apply below_drew1 | refine below_set ?_ GE330.out) | exact HB.out)⟩⟩
                        · rw [if_neg c80] at H
                          have c80b0 : (t364 == 0) = false := beq_eq_false_iff_ne.mpr c80
                          have c80b1 : (t364 != 0) = true := bne_iff_ne.mpr c80
                          by_cases c90 : (x3_1.length : Int) > 256
                          · rw [if_pos c90] at H
                            exact absurd ((Option.some.inj H).trans Hr.out) (by simp)
                          · rw [if_neg c90] at H
                            have c90b0 : decide (256 < (x3_1.length : Int)) = false := decide_eq_false c90
                            have c90b1 : decide (256 < x3_1.length) = false := decide_eq_false (by omega)
                            clear c90
                            have H' := Aside0.mk H
                            clear H
                            have hcz94_0 : wc.cell? ⟨gb330, 0, none⟩ = some (.int .i64 ((rd_T42 l0 x6_1).f0)) := (blk_cell BK330.out 0).trans rfl
                            have hcz94_1 : wc.cell? ⟨gb330, 1, none⟩ = some (.int .i64 ((rd_T42 l0 x6_1).f1)) := (blk_cell BK330.out 1).trans rfl
                            have hcz94_2 : wc.cell? ⟨gb330, 2, none⟩ = some (.slice A329_2 ((rd_T42 l0 x6_1).f2).length c329_2) := (blk_cell BK330.out 2).trans rfl
                            have hfz94_0 := blk_frozen BK330.out 0
                            have hfz94_1 := blk_frozen BK330.out 1
                            have hfz94_2 := blk_frozen BK330.out 2
                            obtain ⟨Ao95, co95, eo95⟩ := Kd.N_slice HO_3.out
                            subst eo95
                            go_wp2_with (first | ((with_reducible refine gate_callee (f := 14) rfl ?_); refine goesL_ (some 75) rfl rfl Try.func14 (by kernel_rfl) rfl #[.slice Ao95 x3_1.length co95, .int .i64 ((rd_T42 l0 x6_1).f1)] rfl (by (try simp only [List.map_toArray, List.map_cons, List.map_nil]); first | done | rfl | (simp only [List.length_drop, List.length_take]; rfl)) ?_; (with_reducible refine (net_Drop.calls (fun k_ => (some k_ ≠ (u4 : Value).ownBlock ∧ (some k_ ≠ (u5 : Value).ownBlock ∧ k_ ≠ gb330))) _ _ x3_1 ((rd_T42 l0 x6_1).f1) t361 t364 _ ?side1 A79.out).mono ?_); (case side1 => exact Kd.N_V (HO_3.out)); rintro e w96 ⟨v362, rfl, ho0, hb⟩; refine ⟨_, rfl, ?_⟩; have n0_ := Aside0.mk (Kd.N_elder' (by (with_reducible repeat (first | apply Kd.N_alloc | apply Kd.N_drewN | apply Kd.N_drew)); exact HO_3.out) (Kd.N_base ho0) hb); have n1_ := Aside0.mk (Kd.N_elder' (by (with_reducible repeat (first | apply Kd.N_alloc | apply Kd.N_drewN | apply Kd.N_drew)); exact HO_4.out) (Kd.N_base ho0) hb); have n2_ := Aside0.mk (Kd.N_elder' (by (with_reducible repeat (first | apply Kd.N_alloc | apply Kd.N_drewN | apply Kd.N_drew)); exact HO_5.out) (Kd.N_base ho0) hb); have n3_ := Aside0.mk (Kd.N_lower (Kd.N_mono (ok' := fun k_ => some k_ ≠ (u4 : Value).ownBlock ∧ some k_ ≠ (u5 : Value).ownBlock ∧ k_ ≠ gb330) ho0 (fun k_ hk_ => ⟨Or.elim hk_ (fun hs_ => hs_.1) (fun hn_ => (Kd.fresh' (Kd.N_lt (by (with_reducible repeat (first | apply Kd.N_alloc | apply Kd.N_drewN | apply Kd.N_drew)); exact HO_4.out)) k_ hn_)), Or.elim hk_ (fun hs_ => hs_.2.1) (fun hn_ => (Kd.fresh' (Kd.N_lt (by (with_reducible repeat (first | apply Kd.N_alloc | apply Kd.N_drewN | apply Kd.N_drew)); exact HO_5.out)) k_ hn_)), Or.elim hk_ (fun hs_ => hs_.2.2) (fun hn_ => (Kd.freshB (g := gb330) (o := .cells #[.int .i64 ((rd_T42 l0 x6_1).f0), .int .i64 ((rd_T42 l0 x6_1).f1), .slice A329_2 ((rd_T42 l0 x6_1).f2).length c329_2] 42 (0, 0)) (by (with_reducible repeat (first | refine blk_drewN ?_ _ | refine blk_drew ?_ | refine blk_alloc ?_ _)); exact BK330.out) k_ hn_))⟩)) (below_size (by repeat (first | (with_reducible first | exact HB.out | apply below_alloc | apply pw_below_drewN | apply below_drew1 | refine below_set ?_ GE330.out) | exact HB.out)))); have n4_ := Aside0.mk (blk_below (g := gb330) (o := .cells #[.int .i64 ((rd_T42 l0 x6_1).f0), .int .i64 ((rd_T42 l0 x6_1).f1), .slice A329_2 ((rd_T42 l0 x6_1).f2).length c329_2] 42 (0, 0)) (by (with_reducible repeat (first | refine blk_drewN ?_ _ | refine blk_drew ?_ | refine blk_alloc ?_ _)); exact BK330.out) hb); have n5_ := Aside0.mk (below_step (by repeat (first | (with_reducible first | exact HB.out | apply below_alloc | apply pw_below_drewN | apply below_drew1 | refine below_set ?_ GE330.out) | exact HB.out)) hb); clear HO_3; clear HO_4; clear HO_5; clear BK330; clear HB; have HO_3 := n0_; have HO_4 := n1_; have HO_5 := n2_; have HO363 := n3_; have BK330 := n4_; have HB := n5_; clear n0_ n1_ n2_ n3_ n4_ n5_; (try clear hb); (try clear hb2); (try clear hk); (try clear hi); (try clear ho0)))
                            go_roundg kj6
                            case measure => have := HK1.out; have := HJ6.out; omega
                            case rel => exact ⟨(x3_1), (x4_1), (x5_1), (wrap64 (x6_1 + 1)), (by first | rfl | (simp; done) | (simp [*]; done)), H', ⟨by have := HK1.out; have := HJ6.out; omega⟩, ⟨by (with_reducible repeat (first | apply Kd.N_alloc | apply Kd.N_drewN | apply Kd.N_drew)); exact Kd.N_mono HO_3.out (fun _ hk => ⟨hk.1.1, hk.1.2.1⟩)⟩, ⟨by (with_reducible repeat (first | apply Kd.N_alloc | apply Kd.N_drewN | apply Kd.N_drew)); exact Kd.N_mono HO_4.out (fun _ hk => ⟨hk.1.1, hk.1.2.1⟩)⟩, ⟨by (with_reducible repeat (first | apply Kd.N_alloc | apply Kd.N_drewN | apply Kd.N_drew)); exact Kd.N_mono HO_5.out (fun _ hk => ⟨hk.1.1, hk.1.2.1⟩)⟩, ⟨by repeat (first | (with_reducible first | exact HB.out | apply below_alloc | apply pw_below_drewN | apply below_drew1 | refine below_set ?_ GE330.out) | exact HB.out)⟩⟩
                      · rw [if_neg c78] at H
                        have c78b0 : (((rd_T42 l0 x6_1).f0) == 3) = false := beq_eq_false_iff_ne.mpr c78
                        have c78b1 : (((rd_T42 l0 x6_1).f0) != 3) = true := bne_iff_ne.mpr c78
                        by_cases c97 : ((rd_T42 l0 x6_1).f0) = 4
                        · rw [if_pos c97] at H
                          have c97b0 : (((rd_T42 l0 x6_1).f0) == 4) = true := beq_iff_eq.mpr c97
                          have c97b1 : (((rd_T42 l0 x6_1).f0) != 4) = false := bne_eq_false_iff_eq.mpr c97
                          clear c97
                          replace H := Option.bind_eq_some_iff.mp H
                          obtain ⟨⟨t365, t368⟩, A980, H⟩ := H
                          replace H : (if t368 = 0 then (if ((rd_T42 l0 x6_1).f1) < 0 then (skirmishlaw48_NetKeeps.j2 kj6 l0 x3_1 x4_1 x5_1 x6_1 t365 t368 true ((rd_T42 l0 x6_1).f0) ((rd_T42 l0 x6_1).f1) ((rd_T42 l0 x6_1).f2)) else (skirmishlaw48_NetKeeps.j2 kj6 l0 x3_1 x4_1 x5_1 x6_1 t365 t368 (decide (((rd_T42 l0 x6_1).f1) ≥ (x3_1.length : Int))) ((rd_T42 l0 x6_1).f0) ((rd_T42 l0 x6_1).f1) ((rd_T42 l0 x6_1).f2))) else (skirmishlaw48_NetKeeps.j2 kj6 l0 x3_1 x4_1 x5_1 x6_1 t365 t368 false ((rd_T42 l0 x6_1).f0) ((rd_T42 l0 x6_1).f1) ((rd_T42 l0 x6_1).f2))) = some r := H
                          have A98 := Aside0.mk A980
                          clear A980
                          have HC99 := Aside0.mk H
                          clear H
                          have hcz100_0 : wc.cell? ⟨gb330, 0, none⟩ = some (.int .i64 ((rd_T42 l0 x6_1).f0)) := (blk_cell BK330.out 0).trans rfl
                          have hcz100_1 : wc.cell? ⟨gb330, 1, none⟩ = some (.int .i64 ((rd_T42 l0 x6_1).f1)) := (blk_cell BK330.out 1).trans rfl
                          have hcz100_2 : wc.cell? ⟨gb330, 2, none⟩ = some (.slice A329_2 ((rd_T42 l0 x6_1).f2).length c329_2) := (blk_cell BK330.out 2).trans rfl
                          have hfz100_0 := blk_frozen BK330.out 0
                          have hfz100_1 := blk_frozen BK330.out 1
                          have hfz100_2 := blk_frozen BK330.out 2
                          obtain ⟨Ao101, co101, eo101⟩ := Kd.N_slice HO_3.out
                          subst eo101
                          go_upto_region 25 with (first | ((with_reducible refine gate_callee (f := 16) rfl ?_); refine goesL_ (some 87) rfl rfl Try.func16 (by kernel_rfl) rfl #[.slice Ao101 x3_1.length co101, .int .i64 ((rd_T42 l0 x6_1).f1)] rfl (by (try simp only [List.map_toArray, List.map_cons, List.map_nil]); first | done | rfl | (simp only [List.length_drop, List.length_take]; rfl)) ?_; (with_reducible refine (net_Duplicate.calls (fun k_ => (some k_ ≠ (u4 : Value).ownBlock ∧ (some k_ ≠ (u5 : Value).ownBlock ∧ k_ ≠ gb330))) _ _ x3_1 ((rd_T42 l0 x6_1).f1) t365 t368 _ ?side1 A98.out).mono ?_); (case side1 => exact Kd.N_V (HO_3.out)); rintro e w102 ⟨v366, rfl, ho0, hb⟩; refine ⟨_, rfl, ?_⟩; have n0_ := Aside0.mk (Kd.N_elder' (by (with_reducible repeat (first | apply Kd.N_alloc | apply Kd.N_drewN | apply Kd.N_drew)); exact HO_3.out) (Kd.N_base ho0) hb); have n1_ := Aside0.mk (Kd.N_elder' (by (with_reducible repeat (first | apply Kd.N_alloc | apply Kd.N_drewN | apply Kd.N_drew)); exact HO_4.out) (Kd.N_base ho0) hb); have n2_ := Aside0.mk (Kd.N_elder' (by (with_reducible repeat (first | apply Kd.N_alloc | apply Kd.N_drewN | apply Kd.N_drew)); exact HO_5.out) (Kd.N_base ho0) hb); have n3_ := Aside0.mk (Kd.N_lower (Kd.N_mono (ok' := fun k_ => some k_ ≠ (u4 : Value).ownBlock ∧ some k_ ≠ (u5 : Value).ownBlock ∧ k_ ≠ gb330) ho0 (fun k_ hk_ => ⟨Or.elim hk_ (fun hs_ => hs_.1) (fun hn_ => (Kd.fresh' (Kd.N_lt (by (with_reducible repeat (first | apply Kd.N_alloc | apply Kd.N_drewN | apply Kd.N_drew)); exact HO_4.out)) k_ hn_)), Or.elim hk_ (fun hs_ => hs_.2.1) (fun hn_ => (Kd.fresh' (Kd.N_lt (by (with_reducible repeat (first | apply Kd.N_alloc | apply Kd.N_drewN | apply Kd.N_drew)); exact HO_5.out)) k_ hn_)), Or.elim hk_ (fun hs_ => hs_.2.2) (fun hn_ => (Kd.freshB (g := gb330) (o := .cells #[.int .i64 ((rd_T42 l0 x6_1).f0), .int .i64 ((rd_T42 l0 x6_1).f1), .slice A329_2 ((rd_T42 l0 x6_1).f2).length c329_2] 42 (0, 0)) (by (with_reducible repeat (first | refine blk_drewN ?_ _ | refine blk_drew ?_ | refine blk_alloc ?_ _)); exact BK330.out) k_ hn_))⟩)) (below_size (by repeat (first | (with_reducible first | exact HB.out | apply below_alloc | apply pw_below_drewN | apply below_drew1 | refine below_set ?_ GE330.out) | exact HB.out)))); have n4_ := Aside0.mk (blk_below (g := gb330) (o := .cells #[.int .i64 ((rd_T42 l0 x6_1).f0), .int .i64 ((rd_T42 l0 x6_1).f1), .slice A329_2 ((rd_T42 l0 x6_1).f2).length c329_2] 42 (0, 0)) (by (with_reducible repeat (first | refine blk_drewN ?_ _ | refine blk_drew ?_ | refine blk_alloc ?_ _)); exact BK330.out) hb); have n5_ := Aside0.mk (below_step (by repeat (first | (with_reducible first | exact HB.out | apply below_alloc | apply pw_below_drewN | apply below_drew1 | refine below_set ?_ GE330.out) | exact HB.out)) hb); clear HO_3; clear HO_4; clear HO_5; clear BK330; clear HB; have HO_3 := n0_; have HO_4 := n1_; have HO_5 := n2_; have HO367 := n3_; have BK330 := n4_; have HB := n5_; clear n0_ n1_ n2_ n3_ n4_ n5_; (try clear hb); (try clear hb2); (try clear hk); (try clear hi); (try clear ho0)))
                          (try simp only [Act.put, List.setIfInBounds_toArray, List.set_cons_zero, List.set_cons_succ])
                          go_cut [103] (fun v103 wc => ∃ (kq : Nat) (x103_98 : Bool), v103 = .bool x103_98 ∧ Aside0 (skirmishlaw48_NetKeeps.j2 kq l0 x3_1 x4_1 x5_1 x6_1 t365 t368 x103_98 ((rd_T42 l0 x6_1).f0) ((rd_T42 l0 x6_1).f1) ((rd_T42 l0 x6_1).f2) = some r) ∧ Aside0 (kq ≤ kj6) ∧ Aside0 (Kd.N k32 32 wc w.heap.size (fun k_ => some k_ ≠ (u4 : Value).ownBlock ∧ some k_ ≠ (u5 : Value).ownBlock ∧ some k_ ≠ (v366 : Value).ownBlock ∧ k_ ≠ gb330) (.slice Ao101 x3_1.length co101) x3_1) ∧ Aside0 (Kd.N k32 32 wc w.heap.size (fun k_ => some k_ ≠ ((.slice Ao101 x3_1.length co101) : Value).ownBlock ∧ some k_ ≠ (u5 : Value).ownBlock ∧ some k_ ≠ (v366 : Value).ownBlock ∧ k_ ≠ gb330) u4 x4_1) ∧ Aside0 (Kd.N k32 32 wc w.heap.size (fun k_ => some k_ ≠ ((.slice Ao101 x3_1.length co101) : Value).ownBlock ∧ some k_ ≠ (u4 : Value).ownBlock ∧ some k_ ≠ (v366 : Value).ownBlock ∧ k_ ≠ gb330) u5 x5_1) ∧ Aside0 (Kd.N k32 32 wc w.heap.size (fun k_ => some k_ ≠ (u4 : Value).ownBlock ∧ some k_ ≠ (u5 : Value).ownBlock ∧ k_ ≠ gb330) v366 t365) ∧ Aside0 (wc.heap[gb330]? = some (.cells #[.int .i64 ((rd_T42 l0 x6_1).f0), .int .i64 ((rd_T42 l0 x6_1).f1), (.slice A329_2 ((rd_T42 l0 x6_1).f2).length c329_2)] 42 (0, 0))) ∧ Aside0 (Below w.heap.size w wc))
                          case first =>
                            have H := HC99.out
                            clear HC99
                            by_cases c103 : t368 = 0
                            · rw [if_pos c103] at H
                              have c103b0 : (t368 == 0) = true := beq_iff_eq.mpr c103
                              have c103b1 : (t368 != 0) = false := bne_eq_false_iff_eq.mpr c103
                              clear c103
                              (first | rw [c103b0] | (simp only [i64_w, i32_w]; rw [c103b0]) | skip)
                              by_cases c104 : ((rd_T42 l0 x6_1).f1) < 0
                              · rw [if_pos c104] at H
                                have c104b0 : decide (((rd_T42 l0 x6_1).f1) < 0) = true := decide_eq_true c104
                                clear c104
                                have H' := Aside0.mk H
                                clear H
                                have hcz105_0 : w102.cell? ⟨gb330, 0, none⟩ = some (.int .i64 ((rd_T42 l0 x6_1).f0)) := (blk_cell BK330.out 0).trans rfl
                                have hcz105_1 : w102.cell? ⟨gb330, 1, none⟩ = some (.int .i64 ((rd_T42 l0 x6_1).f1)) := (blk_cell BK330.out 1).trans rfl
                                have hcz105_2 : w102.cell? ⟨gb330, 2, none⟩ = some (.slice A329_2 ((rd_T42 l0 x6_1).f2).length c329_2) := (blk_cell BK330.out 2).trans rfl
                                have hfz105_0 := blk_frozen BK330.out 0
                                have hfz105_1 := blk_frozen BK330.out 1
                                have hfz105_2 := blk_frozen BK330.out 2
                                go_wp2
                                go_meet
                                case rel => exact ⟨_, (true), (by first | rfl | (simp; done) | (simp [*]; done)), H', ⟨by have := HK1.out; have := HJ6.out; first | omega | exact Nat.le_refl _⟩, ⟨by (with_reducible repeat (first | apply Kd.N_alloc | apply Kd.N_drewN | apply Kd.N_drew)); exact Kd.N_mono HO_3.out (fun _ hk => ⟨hk.1.1, ⟨hk.1.2.1, ⟨hk.2, hk.1.2.2⟩⟩⟩)⟩, ⟨by (with_reducible repeat (first | apply Kd.N_alloc | apply Kd.N_drewN | apply Kd.N_drew)); exact Kd.N_mono HO_4.out (fun _ hk => ⟨hk.1.1, ⟨hk.1.2.1, ⟨hk.2, hk.1.2.2⟩⟩⟩)⟩, ⟨by (with_reducible repeat (first | apply Kd.N_alloc | apply Kd.N_drewN | apply Kd.N_drew)); exact Kd.N_mono HO_5.out (fun _ hk => ⟨hk.1.1, ⟨hk.1.2.1, ⟨hk.2, hk.1.2.2⟩⟩⟩)⟩, ⟨by (with_reducible repeat (first | apply Kd.N_alloc | apply Kd.N_drewN | apply Kd.N_drew)); exact HO367.out⟩, ⟨by (with_reducible repeat (first | refine blk_drewN ?_ _ | refine blk_drew ?_ | refine blk_alloc ?_ _)); exact BK330.out⟩, ⟨by repeat (first | (with_reducible first | exact HB.out | apply below_alloc | apply pw_below_drewN | apply below_drew1 | refine below_set ?_ GE330.out) | exact HB.out)⟩⟩
                              · rw [if_neg c104] at H
                                have c104b0 : decide (((rd_T42 l0 x6_1).f1) < 0) = false := decide_eq_false c104
                                clear c104
                                have H' := Aside0.mk H
                                clear H
                                have hcz106_0 : w102.cell? ⟨gb330, 0, none⟩ = some (.int .i64 ((rd_T42 l0 x6_1).f0)) := (blk_cell BK330.out 0).trans rfl
                                have hcz106_1 : w102.cell? ⟨gb330, 1, none⟩ = some (.int .i64 ((rd_T42 l0 x6_1).f1)) := (blk_cell BK330.out 1).trans rfl
                                have hcz106_2 : w102.cell? ⟨gb330, 2, none⟩ = some (.slice A329_2 ((rd_T42 l0 x6_1).f2).length c329_2) := (blk_cell BK330.out 2).trans rfl
                                have hfz106_0 := blk_frozen BK330.out 0
                                have hfz106_1 := blk_frozen BK330.out 1
                                have hfz106_2 := blk_frozen BK330.out 2
                                go_wp2
                                go_meet
                                case rel => exact ⟨_, (decide (((rd_T42 l0 x6_1).f1) ≥ (x3_1.length : Int))), (by first | rfl | (simp; done) | (simp [*]; done)), H', ⟨by have := HK1.out; have := HJ6.out; first | omega | exact Nat.le_refl _⟩, ⟨by (with_reducible repeat (first | apply Kd.N_alloc | apply Kd.N_drewN | apply Kd.N_drew)); exact Kd.N_mono HO_3.out (fun _ hk => ⟨hk.1.1, ⟨hk.1.2.1, ⟨hk.2, hk.1.2.2⟩⟩⟩)⟩, ⟨by (with_reducible repeat (first | apply Kd.N_alloc | apply Kd.N_drewN | apply Kd.N_drew)); exact Kd.N_mono HO_4.out (fun _ hk => ⟨hk.1.1, ⟨hk.1.2.1, ⟨hk.2, hk.1.2.2⟩⟩⟩)⟩, ⟨by (with_reducible repeat (first | apply Kd.N_alloc | apply Kd.N_drewN | apply Kd.N_drew)); exact Kd.N_mono HO_5.out (fun _ hk => ⟨hk.1.1, ⟨hk.1.2.1, ⟨hk.2, hk.1.2.2⟩⟩⟩)⟩, ⟨by (with_reducible repeat (first | apply Kd.N_alloc | apply Kd.N_drewN | apply Kd.N_drew)); exact HO367.out⟩, ⟨by (with_reducible repeat (first | refine blk_drewN ?_ _ | refine blk_drew ?_ | refine blk_alloc ?_ _)); exact BK330.out⟩, ⟨by repeat (first | (with_reducible first | exact HB.out | apply below_alloc | apply pw_below_drewN | apply below_drew1 | refine below_set ?_ GE330.out) | exact HB.out)⟩⟩
                            · rw [if_neg c103] at H
                              have c103b0 : (t368 == 0) = false := beq_eq_false_iff_ne.mpr c103
                              have c103b1 : (t368 != 0) = true := bne_iff_ne.mpr c103
                              (first | rw [c103b0] | (simp only [i64_w, i32_w]; rw [c103b0]) | skip)
                              have H' := Aside0.mk H
                              clear H
                              go_wp2
                              go_meet
                              case rel => exact ⟨_, (false), (by first | rfl | (simp; done) | (simp [*]; done)), H', ⟨by have := HK1.out; have := HJ6.out; first | omega | exact Nat.le_refl _⟩, ⟨by (with_reducible repeat (first | apply Kd.N_alloc | apply Kd.N_drewN | apply Kd.N_drew)); exact Kd.N_mono HO_3.out (fun _ hk => ⟨hk.1.1, ⟨hk.1.2.1, ⟨hk.2, hk.1.2.2⟩⟩⟩)⟩, ⟨by (with_reducible repeat (first | apply Kd.N_alloc | apply Kd.N_drewN | apply Kd.N_drew)); exact Kd.N_mono HO_4.out (fun _ hk => ⟨hk.1.1, ⟨hk.1.2.1, ⟨hk.2, hk.1.2.2⟩⟩⟩)⟩, ⟨by (with_reducible repeat (first | apply Kd.N_alloc | apply Kd.N_drewN | apply Kd.N_drew)); exact Kd.N_mono HO_5.out (fun _ hk => ⟨hk.1.1, ⟨hk.1.2.1, ⟨hk.2, hk.1.2.2⟩⟩⟩)⟩, ⟨by (with_reducible repeat (first | apply Kd.N_alloc | apply Kd.N_drewN | apply Kd.N_drew)); exact HO367.out⟩, ⟨by (with_reducible repeat (first | refine blk_drewN ?_ _ | refine blk_drew ?_ | refine blk_alloc ?_ _)); exact BK330.out⟩, ⟨by repeat (first | (with_reducible first | exact HB.out | apply below_alloc | apply pw_below_drewN | apply below_drew1 | refine below_set ?_ GE330.out) | exact HB.out)⟩⟩
                          case rest =>
                            clear HC99
                            try clear c1
                            try clear c2
                            try clear c2b0
                            try clear c2b1
                            try clear p2
                            try clear c3
                            try clear p3
                            try clear q3
                            try clear hx3
                            try clear c4
                            try clear c5
                            try clear c5b0
                            try clear c6
                            try clear c6b0
                            try clear p6
                            try clear c7
                            try clear c8
                            try clear c9
                            try clear c10
                            try clear c10b0
                            try clear c10b1
                            try clear c11
                            try clear c12
                            try clear c14
                            try clear c15
                            try clear c16
                            try clear c18
                            try clear c18b0
                            try clear c18b1
                            try clear c21
                            try clear c21b0
                            try clear c21b1
                            try clear c32
                            try clear p32
                            try clear q32
                            try clear hx32
                            try clear c36
                            try clear c36b0
                            try clear c36b1
                            try clear c38
                            try clear c38b0
                            try clear c38b1
                            try clear c39
                            try clear c40
                            try clear c40b0
                            try clear c40b1
                            try clear c45
                            try clear c56
                            try clear c63
                            try clear c63b0
                            try clear c63b1
                            try clear p64
                            try clear c68
                            try clear c75
                            try clear c78
                            try clear c78b0
                            try clear c78b1
                            try clear c80
                            try clear c80b0
                            try clear c80b1
                            try clear c81
                            try clear c81b0
                            try clear c81b1
                            try clear c90
                            try clear c90b0
                            try clear c90b1
                            try clear c97
                            try clear c97b0
                            try clear c97b1
                            try clear c103
                            try clear c103b0
                            try clear c103b1
                            try clear c104
                            try clear c104b0
                            try clear hcz100_0
                            try clear hcz100_1
                            try clear hcz100_2
                            try clear hcz105_0
                            try clear hcz105_1
                            try clear hcz105_2
                            try clear hcz106_0
                            try clear hcz106_1
                            try clear hcz106_2
                            try clear hcz11_0
                            try clear hcz11_1
                            try clear hcz11_2
                            try clear hcz13_0
                            try clear hcz13_1
                            try clear hcz13_2
                            try clear hcz22_0
                            try clear hcz22_1
                            try clear hcz22_2
                            try clear hcz25_0
                            try clear hcz25_1
                            try clear hcz25_2
                            try clear hcz29_0
                            try clear hcz29_1
                            try clear hcz29_2
                            try clear hcz32_0
                            try clear hcz32_1
                            try clear hcz32_2
                            try clear hcz41_0
                            try clear hcz41_1
                            try clear hcz41_2
                            try clear hcz46_0
                            try clear hcz46_1
                            try clear hcz46_10
                            try clear hcz46_11
                            try clear hcz46_2
                            try clear hcz46_3
                            try clear hcz46_4
                            try clear hcz46_5
                            try clear hcz46_6
                            try clear hcz46_7
                            try clear hcz46_8
                            try clear hcz46_9
                            try clear hcz49_0
                            try clear hcz49_1
                            try clear hcz49_10
                            try clear hcz49_11
                            try clear hcz49_2
                            try clear hcz49_3
                            try clear hcz49_4
                            try clear hcz49_5
                            try clear hcz49_6
                            try clear hcz49_7
                            try clear hcz49_8
                            try clear hcz49_9
                            try clear hcz52_0
                            try clear hcz52_1
                            try clear hcz52_2
                            try clear hcz57_0
                            try clear hcz57_1
                            try clear hcz57_10
                            try clear hcz57_11
                            try clear hcz57_2
                            try clear hcz57_3
                            try clear hcz57_4
                            try clear hcz57_5
                            try clear hcz57_6
                            try clear hcz57_7
                            try clear hcz57_8
                            try clear hcz57_9
                            try clear hcz60_0
                            try clear hcz60_1
                            try clear hcz60_10
                            try clear hcz60_11
                            try clear hcz60_2
                            try clear hcz60_3
                            try clear hcz60_4
                            try clear hcz60_5
                            try clear hcz60_6
                            try clear hcz60_7
                            try clear hcz60_8
                            try clear hcz60_9
                            try clear hcz64_0
                            try clear hcz64_1
                            try clear hcz64_2
                            try clear hcz69_0
                            try clear hcz69_1
                            try clear hcz69_10
                            try clear hcz69_11
                            try clear hcz69_2
                            try clear hcz69_3
                            try clear hcz69_4
                            try clear hcz69_5
                            try clear hcz69_6
                            try clear hcz69_7
                            try clear hcz69_8
                            try clear hcz69_9
                            try clear hcz71_0
                            try clear hcz71_1
                            try clear hcz71_2
                            try clear hcz76_0
                            try clear hcz76_1
                            try clear hcz76_10
                            try clear hcz76_11
                            try clear hcz76_2
                            try clear hcz76_3
                            try clear hcz76_4
                            try clear hcz76_5
                            try clear hcz76_6
                            try clear hcz76_7
                            try clear hcz76_8
                            try clear hcz76_9
                            try clear hcz82_0
                            try clear hcz82_1
                            try clear hcz82_2
                            try clear hcz86_0
                            try clear hcz86_1
                            try clear hcz86_2
                            try clear hcz91_0
                            try clear hcz91_1
                            try clear hcz91_2
                            try clear hcz94_0
                            try clear hcz94_1
                            try clear hcz94_2
                            try clear hcz9_0
                            try clear hcz9_1
                            try clear hcz9_2
                            try clear hfz100_0
                            try clear hfz100_1
                            try clear hfz100_2
                            try clear hfz105_0
                            try clear hfz105_1
                            try clear hfz105_2
                            try clear hfz106_0
                            try clear hfz106_1
                            try clear hfz106_2
                            try clear hfz11_0
                            try clear hfz11_1
                            try clear hfz11_2
                            try clear hfz13_0
                            try clear hfz13_1
                            try clear hfz13_2
                            try clear hfz22_0
                            try clear hfz22_1
                            try clear hfz22_2
                            try clear hfz25_0
                            try clear hfz25_1
                            try clear hfz25_2
                            try clear hfz29_0
                            try clear hfz29_1
                            try clear hfz29_2
                            try clear hfz32_0
                            try clear hfz32_1
                            try clear hfz32_2
                            try clear hfz41_0
                            try clear hfz41_1
                            try clear hfz41_2
                            try clear hfz46_0
                            try clear hfz46_1
                            try clear hfz46_10
                            try clear hfz46_11
                            try clear hfz46_2
                            try clear hfz46_3
                            try clear hfz46_4
                            try clear hfz46_5
                            try clear hfz46_6
                            try clear hfz46_7
                            try clear hfz46_8
                            try clear hfz46_9
                            try clear hfz49_0
                            try clear hfz49_1
                            try clear hfz49_10
                            try clear hfz49_11
                            try clear hfz49_2
                            try clear hfz49_3
                            try clear hfz49_4
                            try clear hfz49_5
                            try clear hfz49_6
                            try clear hfz49_7
                            try clear hfz49_8
                            try clear hfz49_9
                            try clear hfz52_0
                            try clear hfz52_1
                            try clear hfz52_2
                            try clear hfz57_0
                            try clear hfz57_1
                            try clear hfz57_10
                            try clear hfz57_11
                            try clear hfz57_2
                            try clear hfz57_3
                            try clear hfz57_4
                            try clear hfz57_5
                            try clear hfz57_6
                            try clear hfz57_7
                            try clear hfz57_8
                            try clear hfz57_9
                            try clear hfz60_0
                            try clear hfz60_1
                            try clear hfz60_10
                            try clear hfz60_11
                            try clear hfz60_2
                            try clear hfz60_3
                            try clear hfz60_4
                            try clear hfz60_5
                            try clear hfz60_6
                            try clear hfz60_7
                            try clear hfz60_8
                            try clear hfz60_9
                            try clear hfz64_0
                            try clear hfz64_1
                            try clear hfz64_2
                            try clear hfz69_0
                            try clear hfz69_1
                            try clear hfz69_10
                            try clear hfz69_11
                            try clear hfz69_2
                            try clear hfz69_3
                            try clear hfz69_4
                            try clear hfz69_5
                            try clear hfz69_6
                            try clear hfz69_7
                            try clear hfz69_8
                            try clear hfz69_9
                            try clear hfz71_0
                            try clear hfz71_1
                            try clear hfz71_2
                            try clear hfz76_0
                            try clear hfz76_1
                            try clear hfz76_10
                            try clear hfz76_11
                            try clear hfz76_2
                            try clear hfz76_3
                            try clear hfz76_4
                            try clear hfz76_5
                            try clear hfz76_6
                            try clear hfz76_7
                            try clear hfz76_8
                            try clear hfz76_9
                            try clear hfz82_0
                            try clear hfz82_1
                            try clear hfz82_2
                            try clear hfz86_0
                            try clear hfz86_1
                            try clear hfz86_2
                            try clear hfz91_0
                            try clear hfz91_1
                            try clear hfz91_2
                            try clear hfz94_0
                            try clear hfz94_1
                            try clear hfz94_2
                            try clear hfz9_0
                            try clear hfz9_1
                            try clear hfz9_2
                            try clear hx329_0
                            try clear hx329_1
                            try clear hx329_2
                            try clear p2
                            try clear p3
                            try clear p329
                            try clear q3
                            try clear q329
                            obtain ⟨kq, x103_98, rfl, HA, HJ98, HO_3, HO_4, HO_5, HO_13, BK330, HB⟩ := hcut
                            cases kq with
                            | zero => exact absurd HA.out (by simp [skirmishlaw48_NetKeeps.j2])
                            | succ kj98 =>
                              have H := HA.out
                              clear HA
                              simp only [skirmishlaw48_NetKeeps.j2] at H
                              by_cases c107 : x103_98 = true
                              · subst c107
                                have H1 : (some false) = some r := by rw [if_pos rfl] at H; exact H
                                exact absurd ((Option.some.inj H1).trans Hr.out) (by simp)
                              · replace c107 := Bool.eq_false_iff.mpr c107
                                subst c107
                                have H1 : (if t368 = 0 then (if 0 ≤ ((rd_T42 l0 x6_1).f1) then (if ((rd_T42 l0 x6_1).f1) < (x3_1.length : Int) then (if x4_1.length < 1172812402961 then (if (t365.length : Int) > 256 then (some false) else (skirmishlaw48_NetKeeps.l0 kj98 l0 t365 (x4_1 ++ [(⟨(rd_T32 x3_1 ((rd_T42 l0 x6_1).f1)).f0, (rd_T32 x3_1 ((rd_T42 l0 x6_1).f1)).f1, (rd_T32 x3_1 ((rd_T42 l0 x6_1).f1)).f2, (rd_T32 x3_1 ((rd_T42 l0 x6_1).f1)).f3, (rd_T32 x3_1 ((rd_T42 l0 x6_1).f1)).f4, (rd_T32 x3_1 ((rd_T42 l0 x6_1).f1)).f5, (rd_T32 x3_1 ((rd_T42 l0 x6_1).f1)).f6, (⟨(rd_T32 x3_1 ((rd_T42 l0 x6_1).f1)).f7.f0, (rd_T32 x3_1 ((rd_T42 l0 x6_1).f1)).f7.f1, (rd_T32 x3_1 ((rd_T42 l0 x6_1).f1)).f7.f2, (rd_T32 x3_1 ((rd_T42 l0 x6_1).f1)).f7.f3⟩ : S30), (rd_T32 x3_1 ((rd_T42 l0 x6_1).f1)).f8⟩ : S32)]) x5_1 (wrap64 (x6_1 + 1)))) else (none)) else (none)) else (none)) else (if (x3_1.length : Int) > 256 then (some false) else (skirmishlaw48_NetKeeps.l0 kj98 l0 x3_1 x4_1 x5_1 (wrap64 (x6_1 + 1))))) = some r := by rw [if_neg (show ¬ (false = true) by decide)] at H; exact H
                                clear H
                                have H := H1
                                clear H1
                                by_cases c108 : t368 = 0
                                · rw [if_pos c108] at H
                                  have c108b0 : (t368 == 0) = true := beq_iff_eq.mpr c108
                                  have c108b1 : (t368 != 0) = false := bne_eq_false_iff_eq.mpr c108
                                  clear c108
                                  by_cases c109 : 0 ≤ ((rd_T42 l0 x6_1).f1)
                                  · rw [if_pos c109] at H
                                    have c109b0 : decide (0 ≤ ((rd_T42 l0 x6_1).f1)) = true := decide_eq_true c109
                                    clear c109
                                    by_cases c110 : ((rd_T42 l0 x6_1).f1) < (x3_1.length : Int)
                                    · rw [if_pos c110] at H
                                      have c110b0 : decide (((rd_T42 l0 x6_1).f1) < (x3_1.length : Int)) = true := decide_eq_true c110
                                      clear c110
                                      by_cases c111 : x4_1.length < 1172812402961
                                      · rw [if_pos c111] at H
                                        have LMc111 := Aside0.mk c111
                                        clear c111
                                        obtain ⟨y370, hy370⟩ : ∃ y_ : List (S32), y_ = (x4_1 ++ [(⟨(rd_T32 x3_1 ((rd_T42 l0 x6_1).f1)).f0, (rd_T32 x3_1 ((rd_T42 l0 x6_1).f1)).f1, (rd_T32 x3_1 ((rd_T42 l0 x6_1).f1)).f2, (rd_T32 x3_1 ((rd_T42 l0 x6_1).f1)).f3, (rd_T32 x3_1 ((rd_T42 l0 x6_1).f1)).f4, (rd_T32 x3_1 ((rd_T42 l0 x6_1).f1)).f5, (rd_T32 x3_1 ((rd_T42 l0 x6_1).f1)).f6, (⟨(rd_T32 x3_1 ((rd_T42 l0 x6_1).f1)).f7.f0, (rd_T32 x3_1 ((rd_T42 l0 x6_1).f1)).f7.f1, (rd_T32 x3_1 ((rd_T42 l0 x6_1).f1)).f7.f2, (rd_T32 x3_1 ((rd_T42 l0 x6_1).f1)).f7.f3⟩ : S30), (rd_T32 x3_1 ((rd_T42 l0 x6_1).f1)).f8⟩ : S32)]) := ⟨_, rfl⟩
                                        replace H : (if (t365.length : Int) > 256 then (some false) else (skirmishlaw48_NetKeeps.l0 kj98 l0 t365 y370 x5_1 (wrap64 (x6_1 + 1)))) = some r := by first | (rw [hy370]; with_reducible exact H) | (have H2_ := (Option.bind_some _ _).symm.trans H; rw [hy370]; with_reducible exact H2_) | (have H2_ := (Option.bind_some _ _).symm.trans H; with_reducible exact H2_) | with_reducible exact H | (rw [hy370]; exact H) | exact H
                                        have Ny370 := Aside0.mk hy370
                                        clear hy370
                                        by_cases c112 : (t365.length : Int) > 256
                                        · rw [if_pos c112] at H
                                          exact absurd ((Option.some.inj H).trans Hr.out) (by simp)
                                        · rw [if_neg c112] at H
                                          have c112b0 : decide (256 < (t365.length : Int)) = false := decide_eq_false c112
                                          have c112b1 : decide (256 < t365.length) = false := decide_eq_false (by omega)
                                          clear c112
                                          have H' := Aside0.mk H
                                          clear H
                                          have hcz116_0 : wc.cell? ⟨gb330, 0, none⟩ = some (.int .i64 ((rd_T42 l0 x6_1).f0)) := (blk_cell BK330.out 0).trans rfl
                                          have hcz116_1 : wc.cell? ⟨gb330, 1, none⟩ = some (.int .i64 ((rd_T42 l0 x6_1).f1)) := (blk_cell BK330.out 1).trans rfl
                                          have hcz116_2 : wc.cell? ⟨gb330, 2, none⟩ = some (.slice A329_2 ((rd_T42 l0 x6_1).f2).length c329_2) := (blk_cell BK330.out 2).trans rfl
                                          have hfz116_0 := blk_frozen BK330.out 0
                                          have hfz116_1 := blk_frozen BK330.out 1
                                          have hfz116_2 := blk_frozen BK330.out 2
                                          have p369 : 0 ≤ (((rd_T42 l0 x6_1).f1) : Int) := of_decide_eq_true (by first | (with_reducible assumption) | assumption)
                                          have q369 : ((rd_T42 l0 x6_1).f1) < (x3_1.length : Int) := of_decide_eq_true (by first | (with_reducible assumption) | assumption)
                                          obtain ⟨ad369, A369_10, c369_10, e369, hx369_0, hx369_1, hx369_2, hx369_3, hx369_4, hx369_5, hx369_6, hx369_7, hx369_8, hx369_9, hx369_10, hx369_11, hl369_10, hi369_10⟩ := at_T32 (Kd.N_reads' HO_3.out).2.2 ((rd_T42 l0 x6_1).f1) p369 q369
                                          cases e369
                                          obtain ⟨ce369, hce369, hMe369, hcc369⟩ := Kd.N_get HO_3.out z32 ((rd_T42 l0 x6_1).f1) p369 (by first | exact q369 | exact of_decide_eq_true (by first | (with_reducible assumption) | assumption) | (have e_ := (Kd.N_reads' HO_3.out).1; omega))
                                          obtain ⟨ua369_10, uc369_10, rfl, ul369_10, ge369_10⟩ := k32_openF hMe369
                                          have hv369_10 := hcc369 10 _ rfl
                                          rw [add_field _ _ 10 (by omega)] at hv369_10
                                          replace hv369_10 := Option.some.inj (hv369_10.symm.trans hx369_10)
                                          injection hv369_10 with hva_ hvn_ hvc_
                                          rw [hva_] at ge369_10
                                          rw [hvc_] at ul369_10
                                          have HL369_10 := Aside0.mk (show Kd.V k49 49 _ w.heap.size _ _ ((rd_T32 x3_1 ((rd_T42 l0 x6_1).f1)).f7.f3) from Kd.V_mk ul369_10 ge369_10)
                                          clear hva_ hvn_ hvc_ ge369_10 ul369_10
                                          clear hcc369 hce369
                                          have HR369_10 := Aside0.mk hi369_10
                                          have HC369_10 := Aside0.mk hl369_10
                                          clear hi369_10 hl369_10
                                          replace p369 := eq_true p369
                                          replace q369 := eq_true q369
                                          go_wp2_with (first | ((with_reducible refine gate_builtin (b := .append) (xs := #[.tmp 106, .tmp 112]) rfl ?_); (try (refine gate_guard (by rfl) ?_; dsimp only)); at_builtin; refine Kd.N_append k32 (w0 := w) w.heap.size rfl (.tmp 106) (.tmp 112) 22 32 (.agg #[(.int .i64 0), (.int .i64 0), (.int .i64 0), (.int .i64 0), (.int .i64 0), (.int .i64 0), (.int .u64 0), (.int .i64 0), (.int .i64 0), (.int .i64 0), (.slice none 0 0), (.string ⟨#[]⟩)]) 120 rfl Try.underlying22 info32 rfl (by decide) (by omega) u4 x4_1 (⟨(rd_T32 x3_1 ((rd_T42 l0 x6_1).f1)).f0, (rd_T32 x3_1 ((rd_T42 l0 x6_1).f1)).f1, (rd_T32 x3_1 ((rd_T42 l0 x6_1).f1)).f2, (rd_T32 x3_1 ((rd_T42 l0 x6_1).f1)).f3, (rd_T32 x3_1 ((rd_T42 l0 x6_1).f1)).f4, (rd_T32 x3_1 ((rd_T42 l0 x6_1).f1)).f5, (rd_T32 x3_1 ((rd_T42 l0 x6_1).f1)).f6, (⟨(rd_T32 x3_1 ((rd_T42 l0 x6_1).f1)).f7.f0, (rd_T32 x3_1 ((rd_T42 l0 x6_1).f1)).f7.f1, (rd_T32 x3_1 ((rd_T42 l0 x6_1).f1)).f7.f2, (rd_T32 x3_1 ((rd_T42 l0 x6_1).f1)).f7.f3⟩ : S30), (rd_T32 x3_1 ((rd_T42 l0 x6_1).f1)).f8⟩ : S32) [.int .i64 ((rd_T32 x3_1 ((rd_T42 l0 x6_1).f1)).f0), .int .i64 ((rd_T32 x3_1 ((rd_T42 l0 x6_1).f1)).f1), .int .i64 ((rd_T32 x3_1 ((rd_T42 l0 x6_1).f1)).f2), .int .i64 ((rd_T32 x3_1 ((rd_T42 l0 x6_1).f1)).f3), .int .i64 ((rd_T32 x3_1 ((rd_T42 l0 x6_1).f1)).f4), .int .i64 ((rd_T32 x3_1 ((rd_T42 l0 x6_1).f1)).f5), .int .u64 ((rd_T32 x3_1 ((rd_T42 l0 x6_1).f1)).f6), .int .i64 ((rd_T32 x3_1 ((rd_T42 l0 x6_1).f1)).f7.f0), .int .i64 ((rd_T32 x3_1 ((rd_T42 l0 x6_1).f1)).f7.f1), .int .i64 ((rd_T32 x3_1 ((rd_T42 l0 x6_1).f1)).f7.f2), .slice A369_10 ((rd_T32 x3_1 ((rd_T42 l0 x6_1).f1)).f7.f3).length c369_10, .string ((rd_T32 x3_1 ((rd_T42 l0 x6_1).f1)).f8)] (fun k_ => some k_ ≠ (.slice (some ad369) x3_1.length co101 : Value).ownBlock ∧ some k_ ≠ (u5 : Value).ownBlock ∧ some k_ ≠ (v366 : Value).ownBlock ∧ k_ ≠ gb330) (fun k_ => ((fun k_ => some k_ ≠ (.slice (some ad369) x3_1.length co101 : Value).ownBlock ∧ some k_ ≠ (u5 : Value).ownBlock ∧ some k_ ≠ (v366 : Value).ownBlock ∧ k_ ≠ gb330)) k_ ∧ some k_ ≠ (u4 : Value).ownBlock) rfl rfl ?aP (fun _ hk => hk) ?aF ?aO ?aB ?aS ?aL ?_; (case aP => exact (k32_mkF _ _ (⟨(rd_T32 x3_1 ((rd_T42 l0 x6_1).f1)).f0, (rd_T32 x3_1 ((rd_T42 l0 x6_1).f1)).f1, (rd_T32 x3_1 ((rd_T42 l0 x6_1).f1)).f2, (rd_T32 x3_1 ((rd_T42 l0 x6_1).f1)).f3, (rd_T32 x3_1 ((rd_T42 l0 x6_1).f1)).f4, (rd_T32 x3_1 ((rd_T42 l0 x6_1).f1)).f5, (rd_T32 x3_1 ((rd_T42 l0 x6_1).f1)).f6, (⟨(rd_T32 x3_1 ((rd_T42 l0 x6_1).f1)).f7.f0, (rd_T32 x3_1 ((rd_T42 l0 x6_1).f1)).f7.f1, (rd_T32 x3_1 ((rd_T42 l0 x6_1).f1)).f7.f2, (rd_T32 x3_1 ((rd_T42 l0 x6_1).f1)).f7.f3⟩ : S30), (rd_T32 x3_1 ((rd_T42 l0 x6_1).f1)).f8⟩ : S32) (Kd.V_reads' (Kd.V_mono (ok' := (fun k_ => ((fun k_ => some k_ ≠ (.slice (some ad369) x3_1.length co101 : Value).ownBlock ∧ some k_ ≠ (u5 : Value).ownBlock ∧ some k_ ≠ (v366 : Value).ownBlock ∧ k_ ≠ gb330)) k_ ∧ some k_ ≠ (u4 : Value).ownBlock)) (HL369_10.out) (fun k_ hk => ⟨⟨hk.2, ⟨hk.1.2.1, ⟨hk.1.2.2.1, hk.1.2.2.2⟩⟩⟩, hk.1.1⟩))).2.1 (Kd.V_F (Kd.V_mono (ok' := (fun k_ => ((fun k_ => some k_ ≠ (.slice (some ad369) x3_1.length co101 : Value).ownBlock ∧ some k_ ≠ (u5 : Value).ownBlock ∧ some k_ ≠ (v366 : Value).ownBlock ∧ k_ ≠ gb330)) k_ ∧ some k_ ≠ (u4 : Value).ownBlock)) (HL369_10.out) (fun k_ hk => ⟨⟨hk.2, ⟨hk.1.2.1, ⟨hk.1.2.2.1, hk.1.2.2.2⟩⟩⟩, hk.1.1⟩))))); (case aB => exact (by repeat (first | (with_reducible first | exact HB.out | apply below_alloc | apply pw_below_drewN | apply below_drew1 | refine below_set ?_ GE330.out) | exact HB.out))); (case aF => exact (fun k_ hk => ⟨Kd.fresh' (Kd.N_lt (by (with_reducible repeat (first | apply Kd.N_alloc | apply Kd.N_drewN | apply Kd.N_drew)); exact HO_3.out)) k_ hk, Kd.fresh' (Kd.N_lt (by (with_reducible repeat (first | apply Kd.N_alloc | apply Kd.N_drewN | apply Kd.N_drew)); exact HO_5.out)) k_ hk, Kd.fresh' (Kd.N_lt (by (with_reducible repeat (first | apply Kd.N_alloc | apply Kd.N_drewN | apply Kd.N_drew)); exact HO_13.out)) k_ hk, Kd.freshB (g := gb330) (o := .cells #[.int .i64 ((rd_T42 l0 x6_1).f0), .int .i64 ((rd_T42 l0 x6_1).f1), .slice A329_2 ((rd_T42 l0 x6_1).f2).length c329_2] 42 (0, 0)) (by (with_reducible repeat (first | refine blk_drewN ?_ _ | refine blk_drew ?_ | refine blk_alloc ?_ _)); exact BK330.out) k_ hk⟩)); (case aO => exact (by (with_reducible repeat (first | apply Kd.N_alloc | apply Kd.N_drewN | apply Kd.N_drew)); exact HO_4.out)); (case aS => exact (below_size (by repeat (first | (with_reducible first | exact HB.out | apply below_alloc | apply pw_below_drewN | apply below_drew1 | refine below_set ?_ GE330.out) | exact HB.out)))); (case aL => have := LMc111.out; omega); intro v371 w117 ho hb hg hat; rw [← Ny370.out] at ho; have n0_ := Aside0.mk (Kd.N_afterv (ok := (fun k_ => some k_ ≠ (u5 : Value).ownBlock ∧ some k_ ≠ (v366 : Value).ownBlock ∧ k_ ≠ gb330)) (by (with_reducible repeat (first | apply Kd.N_alloc | apply Kd.N_drewN | apply Kd.N_drew)); exact Kd.N_mono HO_3.out (fun _ hk => ⟨⟨hk.2.1, ⟨hk.2.2.1, hk.2.2.2⟩⟩, hk.1⟩)) hg hat); have n1_ := Aside0.mk (Kd.N_afterv (ok := (fun k_ => some k_ ≠ (.slice (some ad369) x3_1.length co101 : Value).ownBlock ∧ some k_ ≠ (v366 : Value).ownBlock ∧ k_ ≠ gb330)) (by (with_reducible repeat (first | apply Kd.N_alloc | apply Kd.N_drewN | apply Kd.N_drew)); exact Kd.N_mono HO_5.out (fun _ hk => ⟨⟨hk.1, ⟨hk.2.2.1, hk.2.2.2⟩⟩, hk.2.1⟩)) hg hat); have n2_ := Aside0.mk (Kd.N_afterv (ok := (fun k_ => some k_ ≠ (u5 : Value).ownBlock ∧ k_ ≠ gb330)) (by (with_reducible repeat (first | apply Kd.N_alloc | apply Kd.N_drewN | apply Kd.N_drew)); exact Kd.N_mono HO_13.out (fun _ hk => ⟨⟨hk.2.1, hk.2.2⟩, hk.1⟩)) hg hat); have n3_ := Aside0.mk (blk_grown (g := gb330) (o := .cells #[.int .i64 ((rd_T42 l0 x6_1).f0), .int .i64 ((rd_T42 l0 x6_1).f1), .slice A329_2 ((rd_T42 l0 x6_1).f2).length c329_2] 42 (0, 0)) (by (with_reducible repeat (first | refine blk_drewN ?_ _ | refine blk_drew ?_ | refine blk_alloc ?_ _)); exact BK330.out) hg (Kd.N_ne HO_4.out BK330.out (by decide))); have n4_ := Aside0.mk (Kd.V_afterv (ok := (fun k_ => some k_ ≠ (.slice (some ad369) x3_1.length co101 : Value).ownBlock ∧ some k_ ≠ (u5 : Value).ownBlock ∧ some k_ ≠ (v366 : Value).ownBlock ∧ k_ ≠ gb330)) (by (with_reducible repeat (first | apply Kd.V_alloc | apply Kd.V_drewN | apply Kd.V_drew)); exact Kd.V_mono HL369_10.out (fun _ hk => ⟨⟨hk.2, ⟨hk.1.2.1, ⟨hk.1.2.2.1, hk.1.2.2.2⟩⟩⟩, hk.1.1⟩)) hg hat); have n5_ := Aside0.mk (hb); have n6_ := Aside0.mk (ho); clear HO_3; clear HO_5; clear HO_13; clear BK330; clear HL369_10; clear HB; clear HO_4; have HO_3 := n0_; have HO_5 := n1_; have HO_13 := n2_; have BK330 := n3_; have HL369_10 := n4_; have HB := n5_; have HO372 := n6_; clear n0_ n1_ n2_ n3_ n4_ n5_ n6_; clear ho hb hg hat; obtain ⟨Ao118, co118, eo118⟩ := Kd.N_slice HO_13.out; subst eo118))
                                          go_roundg kj98
                                          case measure => have := HK1.out; have := HJ6.out; have := HJ98.out; omega
                                          case rel => exact ⟨(t365), (y370), (x5_1), (wrap64 (x6_1 + 1)), (by first | rfl | (simp; done) | (simp [*]; done)), H', ⟨by have := HK1.out; have := HJ6.out; have := HJ98.out; omega⟩, ⟨by (with_reducible repeat (first | apply Kd.N_alloc | apply Kd.N_drewN | apply Kd.N_drew)); exact Kd.N_mono HO_13.out (fun _ hk => ⟨hk.2, hk.1.1⟩)⟩, ⟨by (with_reducible repeat (first | apply Kd.N_alloc | apply Kd.N_drewN | apply Kd.N_drew)); exact Kd.N_mono HO372.out (fun _ hk => ⟨hk.2.2.1, hk.2.1⟩)⟩, ⟨by (with_reducible repeat (first | apply Kd.N_alloc | apply Kd.N_drewN | apply Kd.N_drew)); exact Kd.N_mono HO_5.out (fun _ hk => ⟨hk.1.2.1, hk.2⟩)⟩, ⟨by repeat (first | (with_reducible first | exact HB.out | apply below_alloc | apply pw_below_drewN | apply below_drew1 | refine below_set ?_ GE330.out) | exact HB.out)⟩⟩
                                      · rw [if_neg c111] at H
                                        exact absurd H (by simp)
                                    · rw [if_neg c110] at H
                                      exact absurd H (by simp)
                                  · rw [if_neg c109] at H
                                    exact absurd H (by simp)
                                · rw [if_neg c108] at H
                                  have c108b0 : (t368 == 0) = false := beq_eq_false_iff_ne.mpr c108
                                  have c108b1 : (t368 != 0) = true := bne_iff_ne.mpr c108
                                  by_cases c119 : (x3_1.length : Int) > 256
                                  · rw [if_pos c119] at H
                                    exact absurd ((Option.some.inj H).trans Hr.out) (by simp)
                                  · rw [if_neg c119] at H
                                    have c119b0 : decide (256 < (x3_1.length : Int)) = false := decide_eq_false c119
                                    have c119b1 : decide (256 < x3_1.length) = false := decide_eq_false (by omega)
                                    clear c119
                                    have H' := Aside0.mk H
                                    clear H
                                    go_wp2
                                    go_roundg kj98
                                    case measure => have := HK1.out; have := HJ6.out; have := HJ98.out; omega
                                    case rel => exact ⟨(x3_1), (x4_1), (x5_1), (wrap64 (x6_1 + 1)), (by first | rfl | (simp; done) | (simp [*]; done)), H', ⟨by have := HK1.out; have := HJ6.out; have := HJ98.out; omega⟩, ⟨by (with_reducible repeat (first | apply Kd.N_alloc | apply Kd.N_drewN | apply Kd.N_drew)); exact Kd.N_mono HO_3.out (fun _ hk => ⟨hk.1, hk.2.1⟩)⟩, ⟨by (with_reducible repeat (first | apply Kd.N_alloc | apply Kd.N_drewN | apply Kd.N_drew)); exact Kd.N_mono HO_4.out (fun _ hk => ⟨hk.1, hk.2.1⟩)⟩, ⟨by (with_reducible repeat (first | apply Kd.N_alloc | apply Kd.N_drewN | apply Kd.N_drew)); exact Kd.N_mono HO_5.out (fun _ hk => ⟨hk.1, hk.2.1⟩)⟩, ⟨by repeat (first | (with_reducible first | exact HB.out | apply below_alloc | apply pw_below_drewN | apply below_drew1 | refine below_set ?_ GE330.out) | exact HB.out)⟩⟩
                        · rw [if_neg c97] at H
                          have c97b0 : (((rd_T42 l0 x6_1).f0) == 4) = false := beq_eq_false_iff_ne.mpr c97
                          have c97b1 : (((rd_T42 l0 x6_1).f0) != 4) = true := bne_iff_ne.mpr c97
                          by_cases c120 : (x3_1.length : Int) > 256
                          · rw [if_pos c120] at H
                            exact absurd ((Option.some.inj H).trans Hr.out) (by simp)
                          · rw [if_neg c120] at H
                            have c120b0 : decide (256 < (x3_1.length : Int)) = false := decide_eq_false c120
                            have c120b1 : decide (256 < x3_1.length) = false := decide_eq_false (by omega)
                            clear c120
                            have H' := Aside0.mk H
                            clear H
                            have hcz123_0 : wc.cell? ⟨gb330, 0, none⟩ = some (.int .i64 ((rd_T42 l0 x6_1).f0)) := (blk_cell BK330.out 0).trans rfl
                            have hcz123_1 : wc.cell? ⟨gb330, 1, none⟩ = some (.int .i64 ((rd_T42 l0 x6_1).f1)) := (blk_cell BK330.out 1).trans rfl
                            have hcz123_2 : wc.cell? ⟨gb330, 2, none⟩ = some (.slice A329_2 ((rd_T42 l0 x6_1).f2).length c329_2) := (blk_cell BK330.out 2).trans rfl
                            have hfz123_0 := blk_frozen BK330.out 0
                            have hfz123_1 := blk_frozen BK330.out 1
                            have hfz123_2 := blk_frozen BK330.out 2
                            obtain ⟨Ao124, co124, eo124⟩ := Kd.N_slice HO_3.out
                            subst eo124
                            go_wp2
                            go_roundg kj6
                            case measure => have := HK1.out; have := HJ6.out; omega
                            case rel => exact ⟨(x3_1), (x4_1), (x5_1), (wrap64 (x6_1 + 1)), (by first | rfl | (simp; done) | (simp [*]; done)), H', ⟨by have := HK1.out; have := HJ6.out; omega⟩, ⟨by (with_reducible repeat (first | apply Kd.N_alloc | apply Kd.N_drewN | apply Kd.N_drew)); exact Kd.N_mono HO_3.out (fun _ hk => ⟨hk.1, hk.2.1⟩)⟩, ⟨by (with_reducible repeat (first | apply Kd.N_alloc | apply Kd.N_drewN | apply Kd.N_drew)); exact Kd.N_mono HO_4.out (fun _ hk => ⟨hk.1, hk.2.1⟩)⟩, ⟨by (with_reducible repeat (first | apply Kd.N_alloc | apply Kd.N_drewN | apply Kd.N_drew)); exact Kd.N_mono HO_5.out (fun _ hk => ⟨hk.1, hk.2.1⟩)⟩, ⟨by repeat (first | (with_reducible first | exact HB.out | apply below_alloc | apply pw_below_drewN | apply below_drew1 | refine below_set ?_ GE330.out) | exact HB.out)⟩⟩
          · rw [if_neg c6] at H
            exact absurd H (by simp)
        · rw [if_neg c5] at H
          have c5b0 : decide (x6_1 < (l0.length : Int)) = false := decide_eq_false c5
          clear c5
          have H' := Aside0.mk H
          clear H
          go_wp2
          go_loopg [15] k1 (fun kq v15 w' => ∃ (x15_2 : Int), v15 = .int .i64 x15_2 ∧ Aside0 (skirmishlaw48_NetKeeps.l1 kq x4_1 x5_1 x15_2 = some r) ∧ Aside0 (kq ≤ k1) ∧ Aside0 (Kd.N k32 32 w' w.heap.size (fun k_ => some k_ ≠ (u5 : Value).ownBlock) u4 x4_1) ∧ Aside0 (Kd.N k32 32 w' w.heap.size (fun k_ => some k_ ≠ (u4 : Value).ownBlock) u5 x5_1) ∧ Aside0 (Below w.heap.size w w'))
          case atStart => exact ⟨(0), (by first | rfl | (simp; done) | (simp [*]; done)), H', ⟨Nat.le_refl _⟩, ⟨by (with_reducible repeat (first | apply Kd.N_alloc | apply Kd.N_drewN | apply Kd.N_drew)); exact Kd.N_mono HO_4.out (fun _ hk => hk.2)⟩, ⟨by (with_reducible repeat (first | apply Kd.N_alloc | apply Kd.N_drewN | apply Kd.N_drew)); exact Kd.N_mono HO_5.out (fun _ hk => hk.2)⟩, ⟨by repeat (first | (with_reducible first | exact HB.out | apply below_alloc | apply pw_below_drewN | apply below_drew1) | exact HB.out)⟩⟩
          case round =>
            clear H'
            try clear c1
            try clear c2
            try clear c2b0
            try clear c2b1
            try clear p2
            try clear c3
            try clear p3
            try clear q3
            try clear hx3
            try clear c4
            try clear c5
            try clear c5b0
            try clear c6
            try clear c6b0
            try clear p6
            try clear c7
            try clear c8
            try clear c9
            try clear c10
            try clear c10b0
            try clear c10b1
            try clear c11
            try clear c12
            try clear c14
            try clear c15
            try clear c16
            try clear c18
            try clear c18b0
            try clear c18b1
            try clear c21
            try clear c21b0
            try clear c21b1
            try clear c32
            try clear p32
            try clear q32
            try clear hx32
            try clear c36
            try clear c36b0
            try clear c36b1
            try clear p36
            try clear q36
            try clear hx36
            try clear c38
            try clear c38b0
            try clear c38b1
            try clear c39
            try clear c40
            try clear c40b0
            try clear c40b1
            try clear c45
            try clear c56
            try clear c63
            try clear c63b0
            try clear c63b1
            try clear p64
            try clear c68
            try clear c75
            try clear c78
            try clear c78b0
            try clear c78b1
            try clear c80
            try clear c80b0
            try clear c80b1
            try clear c81
            try clear c81b0
            try clear c81b1
            try clear c90
            try clear c90b0
            try clear c90b1
            try clear c97
            try clear c97b0
            try clear c97b1
            try clear c103
            try clear c103b0
            try clear c103b1
            try clear c104
            try clear c104b0
            try clear c107
            try clear c108
            try clear c108b0
            try clear c108b1
            try clear c109
            try clear c109b0
            try clear c110
            try clear c110b0
            try clear c111
            try clear c112
            try clear c112b0
            try clear c112b1
            try clear c119
            try clear c119b0
            try clear c119b1
            try clear c120
            try clear c120b0
            try clear c120b1
            try clear hcz100_0
            try clear hcz100_1
            try clear hcz100_2
            try clear hcz105_0
            try clear hcz105_1
            try clear hcz105_2
            try clear hcz106_0
            try clear hcz106_1
            try clear hcz106_2
            try clear hcz113_0
            try clear hcz113_1
            try clear hcz113_2
            try clear hcz116_0
            try clear hcz116_1
            try clear hcz116_2
            try clear hcz11_0
            try clear hcz11_1
            try clear hcz11_2
            try clear hcz121_0
            try clear hcz121_1
            try clear hcz121_2
            try clear hcz123_0
            try clear hcz123_1
            try clear hcz123_2
            try clear hcz13_0
            try clear hcz13_1
            try clear hcz13_2
            try clear hcz22_0
            try clear hcz22_1
            try clear hcz22_2
            try clear hcz25_0
            try clear hcz25_1
            try clear hcz25_2
            try clear hcz29_0
            try clear hcz29_1
            try clear hcz29_2
            try clear hcz32_0
            try clear hcz32_1
            try clear hcz32_2
            try clear hcz41_0
            try clear hcz41_1
            try clear hcz41_2
            try clear hcz46_0
            try clear hcz46_1
            try clear hcz46_10
            try clear hcz46_11
            try clear hcz46_2
            try clear hcz46_3
            try clear hcz46_4
            try clear hcz46_5
            try clear hcz46_6
            try clear hcz46_7
            try clear hcz46_8
            try clear hcz46_9
            try clear hcz49_0
            try clear hcz49_1
            try clear hcz49_10
            try clear hcz49_11
            try clear hcz49_2
            try clear hcz49_3
            try clear hcz49_4
            try clear hcz49_5
            try clear hcz49_6
            try clear hcz49_7
            try clear hcz49_8
            try clear hcz49_9
            try clear hcz52_0
            try clear hcz52_1
            try clear hcz52_2
            try clear hcz57_0
            try clear hcz57_1
            try clear hcz57_10
            try clear hcz57_11
            try clear hcz57_2
            try clear hcz57_3
            try clear hcz57_4
            try clear hcz57_5
            try clear hcz57_6
            try clear hcz57_7
            try clear hcz57_8
            try clear hcz57_9
            try clear hcz60_0
            try clear hcz60_1
            try clear hcz60_10
            try clear hcz60_11
            try clear hcz60_2
            try clear hcz60_3
            try clear hcz60_4
            try clear hcz60_5
            try clear hcz60_6
            try clear hcz60_7
            try clear hcz60_8
            try clear hcz60_9
            try clear hcz64_0
            try clear hcz64_1
            try clear hcz64_2
            try clear hcz69_0
            try clear hcz69_1
            try clear hcz69_10
            try clear hcz69_11
            try clear hcz69_2
            try clear hcz69_3
            try clear hcz69_4
            try clear hcz69_5
            try clear hcz69_6
            try clear hcz69_7
            try clear hcz69_8
            try clear hcz69_9
            try clear hcz71_0
            try clear hcz71_1
            try clear hcz71_2
            try clear hcz76_0
            try clear hcz76_1
            try clear hcz76_10
            try clear hcz76_11
            try clear hcz76_2
            try clear hcz76_3
            try clear hcz76_4
            try clear hcz76_5
            try clear hcz76_6
            try clear hcz76_7
            try clear hcz76_8
            try clear hcz76_9
            try clear hcz82_0
            try clear hcz82_1
            try clear hcz82_2
            try clear hcz86_0
            try clear hcz86_1
            try clear hcz86_2
            try clear hcz91_0
            try clear hcz91_1
            try clear hcz91_2
            try clear hcz94_0
            try clear hcz94_1
            try clear hcz94_2
            try clear hcz9_0
            try clear hcz9_1
            try clear hcz9_2
            try clear hfz100_0
            try clear hfz100_1
            try clear hfz100_2
            try clear hfz105_0
            try clear hfz105_1
            try clear hfz105_2
            try clear hfz106_0
            try clear hfz106_1
            try clear hfz106_2
            try clear hfz113_0
            try clear hfz113_1
            try clear hfz113_2
            try clear hfz116_0
            try clear hfz116_1
            try clear hfz116_2
            try clear hfz11_0
            try clear hfz11_1
            try clear hfz11_2
            try clear hfz121_0
            try clear hfz121_1
            try clear hfz121_2
            try clear hfz123_0
            try clear hfz123_1
            try clear hfz123_2
            try clear hfz13_0
            try clear hfz13_1
            try clear hfz13_2
            try clear hfz22_0
            try clear hfz22_1
            try clear hfz22_2
            try clear hfz25_0
            try clear hfz25_1
            try clear hfz25_2
            try clear hfz29_0
            try clear hfz29_1
            try clear hfz29_2
            try clear hfz32_0
            try clear hfz32_1
            try clear hfz32_2
            try clear hfz41_0
            try clear hfz41_1
            try clear hfz41_2
            try clear hfz46_0
            try clear hfz46_1
            try clear hfz46_10
            try clear hfz46_11
            try clear hfz46_2
            try clear hfz46_3
            try clear hfz46_4
            try clear hfz46_5
            try clear hfz46_6
            try clear hfz46_7
            try clear hfz46_8
            try clear hfz46_9
            try clear hfz49_0
            try clear hfz49_1
            try clear hfz49_10
            try clear hfz49_11
            try clear hfz49_2
            try clear hfz49_3
            try clear hfz49_4
            try clear hfz49_5
            try clear hfz49_6
            try clear hfz49_7
            try clear hfz49_8
            try clear hfz49_9
            try clear hfz52_0
            try clear hfz52_1
            try clear hfz52_2
            try clear hfz57_0
            try clear hfz57_1
            try clear hfz57_10
            try clear hfz57_11
            try clear hfz57_2
            try clear hfz57_3
            try clear hfz57_4
            try clear hfz57_5
            try clear hfz57_6
            try clear hfz57_7
            try clear hfz57_8
            try clear hfz57_9
            try clear hfz60_0
            try clear hfz60_1
            try clear hfz60_10
            try clear hfz60_11
            try clear hfz60_2
            try clear hfz60_3
            try clear hfz60_4
            try clear hfz60_5
            try clear hfz60_6
            try clear hfz60_7
            try clear hfz60_8
            try clear hfz60_9
            try clear hfz64_0
            try clear hfz64_1
            try clear hfz64_2
            try clear hfz69_0
            try clear hfz69_1
            try clear hfz69_10
            try clear hfz69_11
            try clear hfz69_2
            try clear hfz69_3
            try clear hfz69_4
            try clear hfz69_5
            try clear hfz69_6
            try clear hfz69_7
            try clear hfz69_8
            try clear hfz69_9
            try clear hfz71_0
            try clear hfz71_1
            try clear hfz71_2
            try clear hfz76_0
            try clear hfz76_1
            try clear hfz76_10
            try clear hfz76_11
            try clear hfz76_2
            try clear hfz76_3
            try clear hfz76_4
            try clear hfz76_5
            try clear hfz76_6
            try clear hfz76_7
            try clear hfz76_8
            try clear hfz76_9
            try clear hfz82_0
            try clear hfz82_1
            try clear hfz82_2
            try clear hfz86_0
            try clear hfz86_1
            try clear hfz86_2
            try clear hfz91_0
            try clear hfz91_1
            try clear hfz91_2
            try clear hfz94_0
            try clear hfz94_1
            try clear hfz94_2
            try clear hfz9_0
            try clear hfz9_1
            try clear hfz9_2
            try clear hx329_0
            try clear hx329_1
            try clear hx329_2
            try clear hx369_0
            try clear hx369_1
            try clear hx369_10
            try clear hx369_11
            try clear hx369_2
            try clear hx369_3
            try clear hx369_4
            try clear hx369_5
            try clear hx369_6
            try clear hx369_7
            try clear hx369_8
            try clear hx369_9
            try clear p2
            try clear p3
            try clear p32
            try clear p329
            try clear p369
            try clear p6
            try clear p64
            try clear q3
            try clear q32
            try clear q329
            try clear q369
            obtain ⟨x15_2, rfl, HA, HK2, HO_4, HO_5, HB⟩ := hrel
            cases gk with
            | zero => exact absurd HA.out (by simp [skirmishlaw48_NetKeeps.l1])
            | succ k2 =>
              have H := HA.out
              clear HA
              simp only [skirmishlaw48_NetKeeps.l1] at H
              by_cases c125 : x15_2 < (x5_1.length : Int)
              · rw [if_pos c125] at H
                have c125b0 : decide (x15_2 < (x5_1.length : Int)) = true := decide_eq_true c125
                clear c125
                by_cases c126 : 0 ≤ x15_2
                · rw [if_pos c126] at H
                  have c126b0 : decide (0 ≤ x15_2) = true := decide_eq_true c126
                  clear c126
                  replace H := Option.bind_eq_some_iff.mp H
                  obtain ⟨t375, A1270, H⟩ := H
                  replace H : ((skirmishlaw48_count.f k2 x4_1 ((rd_T32 x5_1 x15_2).f0) ((rd_T32 x5_1 x15_2).f1) ((rd_T32 x5_1 x15_2).f2) ((rd_T32 x5_1 x15_2).f3) ((rd_T32 x5_1 x15_2).f4) ((rd_T32 x5_1 x15_2).f5) ((rd_T32 x5_1 x15_2).f6) ((rd_T32 x5_1 x15_2).f7.f0) ((rd_T32 x5_1 x15_2).f7.f1) ((rd_T32 x5_1 x15_2).f7.f2) ((rd_T32 x5_1 x15_2).f7.f3) ((rd_T32 x5_1 x15_2).f8)).bind fun t377 => (if t375 > t377 then (some false) else (skirmishlaw48_NetKeeps.l1 k2 x4_1 x5_1 (wrap64 (x15_2 + 1))))) = some r := H
                  have A127 := Aside0.mk A1270
                  clear A1270
                  replace H := Option.bind_eq_some_iff.mp H
                  obtain ⟨t377, A1280, H⟩ := H
                  replace H : (if t375 > t377 then (some false) else (skirmishlaw48_NetKeeps.l1 k2 x4_1 x5_1 (wrap64 (x15_2 + 1)))) = some r := H
                  have A128 := Aside0.mk A1280
                  clear A1280
                  by_cases c129 : t375 > t377
                  · rw [if_pos c129] at H
                    exact absurd ((Option.some.inj H).trans Hr.out) (by simp)
                  · rw [if_neg c129] at H
                    have c129b0 : decide (t377 < t375) = false := decide_eq_false c129
                    clear c129
                    have H' := Aside0.mk H
                    clear H
                    obtain ⟨Ao135, co135, eo135⟩ := Kd.N_slice HO_5.out
                    subst eo135
                    try go_wp2
                    have n0_ := Aside0.mk (Kd.N_drew HO_4.out)
                    have n1_ := Aside0.mk (Kd.N_drew HO_5.out)
                    have n2_ := Aside0.mk (below_drew1 HB.out)
                    clear HO_4
                    clear HO_5
                    clear HB
                    have HO_4 := n0_
                    have HO_5 := n1_
                    have HB := n2_
                    clear n0_ n1_ n2_
                    have p374 : 0 ≤ (x15_2 : Int) := of_decide_eq_true (by first | (with_reducible assumption) | assumption)
                    have q374 : x15_2 < (x5_1.length : Int) := of_decide_eq_true (by first | (with_reducible assumption) | assumption)
                    obtain ⟨ad374, A374_10, c374_10, e374, hx374_0, hx374_1, hx374_2, hx374_3, hx374_4, hx374_5, hx374_6, hx374_7, hx374_8, hx374_9, hx374_10, hx374_11, hl374_10, hi374_10⟩ := at_T32 (Kd.N_reads' HO_5.out).2.2 x15_2 p374 q374
                    cases e374
                    obtain ⟨ce374, hce374, hMe374, hcc374⟩ := Kd.N_get HO_5.out z32 x15_2 p374 (by first | exact q374 | exact of_decide_eq_true (by first | (with_reducible assumption) | assumption) | (have e_ := (Kd.N_reads' HO_5.out).1; omega))
                    obtain ⟨ua374_10, uc374_10, rfl, ul374_10, ge374_10⟩ := k32_openF hMe374
                    have hv374_10 := hcc374 10 _ rfl
                    rw [add_field _ _ 10 (by omega)] at hv374_10
                    replace hv374_10 := Option.some.inj (hv374_10.symm.trans hx374_10)
                    injection hv374_10 with hva_ hvn_ hvc_
                    rw [hva_] at ge374_10
                    rw [hvc_] at ul374_10
                    have HL374_10 := Aside0.mk (show Kd.V k49 49 _ w.heap.size _ _ ((rd_T32 x5_1 x15_2).f7.f3) from Kd.V_mk ul374_10 ge374_10)
                    clear hva_ hvn_ hvc_ ge374_10 ul374_10
                    clear hcc374 hce374
                    have HR374_10 := Aside0.mk hi374_10
                    have HC374_10 := Aside0.mk hl374_10
                    clear hi374_10 hl374_10
                    replace p374 := eq_true p374
                    replace q374 := eq_true q374
                    have p376 : 0 ≤ (x15_2 : Int) := of_decide_eq_true (by first | (with_reducible assumption) | assumption)
                    have q376 : x15_2 < (x5_1.length : Int) := of_decide_eq_true (by first | (with_reducible assumption) | assumption)
                    obtain ⟨ad376, A376_10, c376_10, e376, hx376_0, hx376_1, hx376_2, hx376_3, hx376_4, hx376_5, hx376_6, hx376_7, hx376_8, hx376_9, hx376_10, hx376_11, hl376_10, hi376_10⟩ := at_T32 (Kd.N_reads' HO_5.out).2.2 x15_2 p376 q376
                    obtain rfl : ad374 = ad376 := (by injection e376)
                    obtain ⟨ce376, hce376, hMe376, hcc376⟩ := Kd.N_get HO_5.out z32 x15_2 p376 (by first | exact q376 | exact of_decide_eq_true (by first | (with_reducible assumption) | assumption) | (have e_ := (Kd.N_reads' HO_5.out).1; omega))
                    obtain ⟨ua376_10, uc376_10, rfl, ul376_10, ge376_10⟩ := k32_openF hMe376
                    have hv376_10 := hcc376 10 _ rfl
                    rw [add_field _ _ 10 (by omega)] at hv376_10
                    replace hv376_10 := Option.some.inj (hv376_10.symm.trans hx376_10)
                    injection hv376_10 with hva_ hvn_ hvc_
                    rw [hva_] at ge376_10
                    rw [hvc_] at ul376_10
                    have HL376_10 := Aside0.mk (show Kd.V k49 49 _ w.heap.size _ _ ((rd_T32 x5_1 x15_2).f7.f3) from Kd.V_mk ul376_10 ge376_10)
                    clear hva_ hvn_ hvc_ ge376_10 ul376_10
                    clear hcc376 hce376
                    have HR376_10 := Aside0.mk hi376_10
                    have HC376_10 := Aside0.mk hl376_10
                    clear hi376_10 hl376_10
                    replace p376 := eq_true p376
                    replace q376 := eq_true q376
                    have ea_ := Option.some.inj (hx374_10.symm.trans hx376_10)
                    injection ea_ with ea_ en_ ec_
                    subst ea_
                    subst ec_
                    clear en_
                    refine start_ (n := 13) (S := fun w' => w'.cell? (ad374.add ((x15_2).toNat * 12)) = some (.int .i64 ((rd_T32 x5_1 x15_2).f0)) ∧ w'.cell? ⟨(ad374.add ((x15_2).toNat * 12)).block, (ad374.add ((x15_2).toNat * 12)).off + 1, none⟩ = some (.int .i64 ((rd_T32 x5_1 x15_2).f1)) ∧ w'.cell? ⟨(ad374.add ((x15_2).toNat * 12)).block, (ad374.add ((x15_2).toNat * 12)).off + 2, none⟩ = some (.int .i64 ((rd_T32 x5_1 x15_2).f2)) ∧ w'.cell? ⟨(ad374.add ((x15_2).toNat * 12)).block, (ad374.add ((x15_2).toNat * 12)).off + 3, none⟩ = some (.int .i64 ((rd_T32 x5_1 x15_2).f3)) ∧ w'.cell? ⟨(ad374.add ((x15_2).toNat * 12)).block, (ad374.add ((x15_2).toNat * 12)).off + 4, none⟩ = some (.int .i64 ((rd_T32 x5_1 x15_2).f4)) ∧ w'.cell? ⟨(ad374.add ((x15_2).toNat * 12)).block, (ad374.add ((x15_2).toNat * 12)).off + 5, none⟩ = some (.int .i64 ((rd_T32 x5_1 x15_2).f5)) ∧ w'.cell? ⟨(ad374.add ((x15_2).toNat * 12)).block, (ad374.add ((x15_2).toNat * 12)).off + 6, none⟩ = some (.int .u64 ((rd_T32 x5_1 x15_2).f6)) ∧ w'.cell? ⟨(ad374.add ((x15_2).toNat * 12)).block, (ad374.add ((x15_2).toNat * 12)).off + 7, none⟩ = some (.int .i64 ((rd_T32 x5_1 x15_2).f7.f0)) ∧ w'.cell? ⟨(ad374.add ((x15_2).toNat * 12)).block, (ad374.add ((x15_2).toNat * 12)).off + 8, none⟩ = some (.int .i64 ((rd_T32 x5_1 x15_2).f7.f1)) ∧ w'.cell? ⟨(ad374.add ((x15_2).toNat * 12)).block, (ad374.add ((x15_2).toNat * 12)).off + 9, none⟩ = some (.int .i64 ((rd_T32 x5_1 x15_2).f7.f2)) ∧ w'.cell? ⟨(ad374.add ((x15_2).toNat * 12)).block, (ad374.add ((x15_2).toNat * 12)).off + 10, none⟩ = some (.slice A374_10 ((rd_T32 x5_1 x15_2).f7.f3).length c374_10) ∧ w'.cell? ⟨(ad374.add ((x15_2).toNat * 12)).block, (ad374.add ((x15_2).toNat * 12)).off + 11, none⟩ = some (.string ((rd_T32 x5_1 x15_2).f8)) ∧ w'.cell? (ad374.add ((x15_2).toNat * 12)) = some (.int .i64 ((rd_T32 x5_1 x15_2).f0)) ∧ w'.cell? ⟨(ad374.add ((x15_2).toNat * 12)).block, (ad374.add ((x15_2).toNat * 12)).off + 1, none⟩ = some (.int .i64 ((rd_T32 x5_1 x15_2).f1)) ∧ w'.cell? ⟨(ad374.add ((x15_2).toNat * 12)).block, (ad374.add ((x15_2).toNat * 12)).off + 2, none⟩ = some (.int .i64 ((rd_T32 x5_1 x15_2).f2)) ∧ w'.cell? ⟨(ad374.add ((x15_2).toNat * 12)).block, (ad374.add ((x15_2).toNat * 12)).off + 3, none⟩ = some (.int .i64 ((rd_T32 x5_1 x15_2).f3)) ∧ w'.cell? ⟨(ad374.add ((x15_2).toNat * 12)).block, (ad374.add ((x15_2).toNat * 12)).off + 4, none⟩ = some (.int .i64 ((rd_T32 x5_1 x15_2).f4)) ∧ w'.cell? ⟨(ad374.add ((x15_2).toNat * 12)).block, (ad374.add ((x15_2).toNat * 12)).off + 5, none⟩ = some (.int .i64 ((rd_T32 x5_1 x15_2).f5)) ∧ w'.cell? ⟨(ad374.add ((x15_2).toNat * 12)).block, (ad374.add ((x15_2).toNat * 12)).off + 6, none⟩ = some (.int .u64 ((rd_T32 x5_1 x15_2).f6)) ∧ w'.cell? ⟨(ad374.add ((x15_2).toNat * 12)).block, (ad374.add ((x15_2).toNat * 12)).off + 7, none⟩ = some (.int .i64 ((rd_T32 x5_1 x15_2).f7.f0)) ∧ w'.cell? ⟨(ad374.add ((x15_2).toNat * 12)).block, (ad374.add ((x15_2).toNat * 12)).off + 8, none⟩ = some (.int .i64 ((rd_T32 x5_1 x15_2).f7.f1)) ∧ w'.cell? ⟨(ad374.add ((x15_2).toNat * 12)).block, (ad374.add ((x15_2).toNat * 12)).off + 9, none⟩ = some (.int .i64 ((rd_T32 x5_1 x15_2).f7.f2)) ∧ w'.cell? ⟨(ad374.add ((x15_2).toNat * 12)).block, (ad374.add ((x15_2).toNat * 12)).off + 10, none⟩ = some (.slice A374_10 ((rd_T32 x5_1 x15_2).f7.f3).length c374_10) ∧ w'.cell? ⟨(ad374.add ((x15_2).toNat * 12)).block, (ad374.add ((x15_2).toNat * 12)).off + 11, none⟩ = some (.string ((rd_T32 x5_1 x15_2).f8))) (ds := []) #[false, false, false, false, false, false, false, false, false, false, false, false, false] (by kernel_rfl) rfl rfl ⟨hx374_0, hx374_1, hx374_2, hx374_3, hx374_4, hx374_5, hx374_6, hx374_7, hx374_8, hx374_9, hx374_10, hx374_11, hx376_0, hx376_1, hx376_2, hx376_3, hx376_4, hx376_5, hx376_6, hx376_7, hx376_8, hx376_9, hx376_10, hx376_11⟩ (fun hHeld => ?_); refine with_tabW skirmishlaw48_NetKeeps.tab35 skirmishlaw48_NetKeeps.bits35 (fun HT_ HW_ => ?_)
                    generalize wr.drew = w136 at HO_4 HO_5 HB HL374_10 HL376_10 HR374_10 HR376_10 hx374_0 hx374_1 hx374_10 hx374_11 hx374_2 hx374_3 hx374_4 hx374_5 hx374_6 hx374_7 hx374_8 hx374_9 hx376_0 hx376_1 hx376_10 hx376_11 hx376_2 hx376_3 hx376_4 hx376_5 hx376_6 hx376_7 hx376_8 hx376_9 hHeld ⊢
                    refine pure_ (i := 0) (N := some 124) (v := ?_) (a' := ?_) #[true, false, false, false, false, false, false, false, false, false, false, false, false] rfl rfl (any_of HT_.out (by kernel_rfl)) (fun _ _ _ h => h) (Or.inl ⟨by rfl, ?_⟩) ?_ ?_
                    rotate_left
                    · intro w'
                      go_simp
                      with_reducible rfl
                    rotate_left
                    · simp only [Act.put, List.setIfInBounds_toArray, List.set_cons_zero, List.set_cons_succ, i64_w, i32_w]
                      rfl
                    refine pure_ (i := 1) (N := some 125) (v := ?_) (a' := ?_) #[true, true, false, false, false, false, false, false, false, false, false, false, false] rfl rfl (any_of HT_.out (by kernel_rfl)) (fun _ _ _ h => h) (Or.inl ⟨by rfl, ?_⟩) ?_ ?_
                    rotate_left
                    · intro w'
                      go_simp
                      with_reducible rfl
                    rotate_left
                    · simp only [Act.put, List.setIfInBounds_toArray, List.set_cons_zero, List.set_cons_succ, i64_w, i32_w]
                      rfl
                    refine pure_ (i := 2) (N := some 126) (v := ?_) (a' := ?_) #[true, true, true, false, false, false, false, false, false, false, false, false, false] rfl rfl (any_of HT_.out (by kernel_rfl)) (fun _ _ _ h => h) (Or.inl ⟨by rfl, ?_⟩) ?_ ?_
                    rotate_left
                    · intro w'
                      go_simp
                      with_reducible rfl
                    rotate_left
                    · simp only [Act.put, List.setIfInBounds_toArray, List.set_cons_zero, List.set_cons_succ, i64_w, i32_w]
                      rfl
                    refine pure_ (i := 3) (N := some 127) (v := ?_) (a' := ?_) #[true, true, true, true, false, false, false, false, false, false, false, false, false] rfl rfl (any_of HT_.out (by kernel_rfl)) (fun _ _ _ h => h) (Or.inl ⟨by rfl, ?_⟩) ?_ ?_
                    rotate_left
                    · intro w'
                      go_simp
                      with_reducible rfl
                    rotate_left
                    · simp only [Act.put, List.setIfInBounds_toArray, List.set_cons_zero, List.set_cons_succ, i64_w, i32_w]
                      rfl
                    refine pure_ (i := 6) (N := some 130) (v := ?_) (a' := ?_) #[true, true, true, true, false, false, true, false, false, false, false, false, false] rfl rfl (any_of HT_.out (by kernel_rfl)) (fun _ _ _ h => h) (Or.inl ⟨by rfl, ?_⟩) ?_ ?_
                    rotate_left
                    · intro w'
                      go_simp
                      with_reducible rfl
                    rotate_left
                    · simp only [Act.put, List.setIfInBounds_toArray, List.set_cons_zero, List.set_cons_succ, i64_w, i32_w]
                      rfl
                    refine pure_ (i := 7) (N := some 131) (v := ?_) (a' := ?_) #[true, true, true, true, false, false, true, true, false, false, false, false, false] rfl rfl (any_of HT_.out (by kernel_rfl)) (fun _ _ _ h => h) (Or.inl ⟨by rfl, ?_⟩) ?_ ?_
                    rotate_left
                    · intro w'
                      go_simp
                      with_reducible rfl
                    rotate_left
                    · simp only [Act.put, List.setIfInBounds_toArray, List.set_cons_zero, List.set_cons_succ, i64_w, i32_w]
                      rfl
                    refine pure_ (i := 8) (N := some 132) (v := ?_) (a' := ?_) #[true, true, true, true, false, false, true, true, true, false, false, false, false] rfl rfl (any_of HT_.out (by kernel_rfl)) (fun _ _ _ h => h) (Or.inl ⟨by rfl, ?_⟩) ?_ ?_
                    rotate_left
                    · intro w'
                      go_simp
                      with_reducible rfl
                    rotate_left
                    · simp only [Act.put, List.setIfInBounds_toArray, List.set_cons_zero, List.set_cons_succ, i64_w, i32_w]
                      rfl
                    refine pure_ (i := 9) (N := some 133) (v := ?_) (a' := ?_) #[true, true, true, true, false, false, true, true, true, true, false, false, false] rfl rfl (any_of HT_.out (by kernel_rfl)) (fun _ _ _ h => h) (Or.inl ⟨by rfl, ?_⟩) ?_ ?_
                    rotate_left
                    · intro w'
                      go_simp
                      with_reducible rfl
                    rotate_left
                    · simp only [Act.put, List.setIfInBounds_toArray, List.set_cons_zero, List.set_cons_succ, i64_w, i32_w]
                      rfl
                    refine take_ (i := 4) (N := some 128) (v := ?_) (a' := ?_) #[true, true, true, true, true, false, true, true, true, true, false, false, false] rfl rfl (take_ofW HT_.out HW_.out (by kernel_rfl)) (fun _ _ _ h => h) (Or.inl ⟨by rfl, ?_⟩) hHeld ?_ ?_
                    rotate_left
                    · rintro w' ⟨s0, s1, s2, s3, s4, s5, s6, s7, s8, s9, s10, s11, s12, s13, s14, s15, s16, s17, s18, s19, s20, s21, s22, s23⟩
                      go_simp
                      with_reducible rfl
                    rotate_left
                    · simp only [Act.put, List.setIfInBounds_toArray, List.set_cons_zero, List.set_cons_succ, i64_w, i32_w]
                      rfl
                    refine take_ (i := 10) (N := some 134) (v := ?_) (a' := ?_) #[true, true, true, true, true, false, true, true, true, true, true, false, false] rfl rfl (take_ofW HT_.out HW_.out (by kernel_rfl)) (fun _ _ _ h => h) (Or.inl ⟨by rfl, ?_⟩) hHeld ?_ ?_
                    rotate_left
                    · rintro w' ⟨s0, s1, s2, s3, s4, s5, s6, s7, s8, s9, s10, s11, s12, s13, s14, s15, s16, s17, s18, s19, s20, s21, s22, s23⟩
                      go_simp
                      with_reducible rfl
                    rotate_left
                    · simp only [Act.put, List.setIfInBounds_toArray, List.set_cons_zero, List.set_cons_succ, i64_w, i32_w]
                      rfl
                    refine one_ (i := 5) (N := some 129) #[true, true, true, true, true, true, true, true, true, true, true, false, false] rfl rfl (one_of HT_.out (by kernel_rfl)) (by decide) (fun K hK => ?_)
                    refine goes_ Try.func18 (by kernel_rfl) rfl #[.slice (some ad374) x5_1.length co135, .agg #[.int .i64 ((rd_T32 x5_1 x15_2).f0), .int .i64 ((rd_T32 x5_1 x15_2).f1), .int .i64 ((rd_T32 x5_1 x15_2).f2), .int .i64 ((rd_T32 x5_1 x15_2).f3), .int .i64 ((rd_T32 x5_1 x15_2).f4), .int .i64 ((rd_T32 x5_1 x15_2).f5), .int .u64 ((rd_T32 x5_1 x15_2).f6), .int .i64 ((rd_T32 x5_1 x15_2).f7.f0), .int .i64 ((rd_T32 x5_1 x15_2).f7.f1), .int .i64 ((rd_T32 x5_1 x15_2).f7.f2), .slice A374_10 ((rd_T32 x5_1 x15_2).f7.f3).length c374_10, .string ((rd_T32 x5_1 x15_2).f8)]] (by rfl) rfl rfl (by (try simp only [List.map_toArray, List.map_cons, List.map_nil]); first | done | rfl | (simp only [List.length_drop, List.length_take]; rfl)) ?_
                    with_reducible refine (skirmishlaw48_count.calls k2 _ _ x5_1 ((rd_T32 x5_1 x15_2).f0) ((rd_T32 x5_1 x15_2).f1) ((rd_T32 x5_1 x15_2).f2) ((rd_T32 x5_1 x15_2).f3) ((rd_T32 x5_1 x15_2).f4) ((rd_T32 x5_1 x15_2).f5) ((rd_T32 x5_1 x15_2).f6) ((rd_T32 x5_1 x15_2).f7.f0) ((rd_T32 x5_1 x15_2).f7.f1) ((rd_T32 x5_1 x15_2).f7.f2) _ _ ((rd_T32 x5_1 x15_2).f7.f3) ((rd_T32 x5_1 x15_2).f8) t375 _ ?side1 ?side2 ?side3 ?side4 A127.out).mono ?_
                    (case side1 => repeat (first | exact (Kd.N_reads' HO_5.out).2.2 | (with_reducible refine Kd.C_alloc ?_ _) | (with_reducible refine Kd.C_drewN ?_ _) | (with_reducible refine Kd.C_drew ?_)))
                    (case side2 => exact (Kd.N_reads' HO_5.out).2.1)
                    (case side3 => repeat (first | exact (by repeat (first | (with_reducible exact HR374_10.out) | (with_reducible refine Kd.C_alloc ?_ _) | (with_reducible refine Kd.C_drewN ?_ _) | (with_reducible refine Kd.C_drew ?_) | exact HR374_10.out)) | (with_reducible refine Kd.C_alloc ?_ _) | (with_reducible refine Kd.C_drewN ?_ _) | (with_reducible refine Kd.C_drew ?_)))
                    (case side4 => exact HC374_10.out)
                    rintro e w137 ⟨rfl, hb⟩
                    have HS0_ := (hb.cell (World.block_lt_of_cell? _ _ (hHeld.1))).trans (hHeld.1)
                    have HS1_ := (hb.cell (World.block_lt_of_cell? _ _ (hHeld.2.1))).trans (hHeld.2.1)
                    have HS2_ := (hb.cell (World.block_lt_of_cell? _ _ (hHeld.2.2.1))).trans (hHeld.2.2.1)
                    have HS3_ := (hb.cell (World.block_lt_of_cell? _ _ (hHeld.2.2.2.1))).trans (hHeld.2.2.2.1)
                    have HS4_ := (hb.cell (World.block_lt_of_cell? _ _ (hHeld.2.2.2.2.1))).trans (hHeld.2.2.2.2.1)
                    have HS5_ := (hb.cell (World.block_lt_of_cell? _ _ (hHeld.2.2.2.2.2.1))).trans (hHeld.2.2.2.2.2.1)
                    have HS6_ := (hb.cell (World.block_lt_of_cell? _ _ (hHeld.2.2.2.2.2.2.1))).trans (hHeld.2.2.2.2.2.2.1)
                    have HS7_ := (hb.cell (World.block_lt_of_cell? _ _ (hHeld.2.2.2.2.2.2.2.1))).trans (hHeld.2.2.2.2.2.2.2.1)
                    have HS8_ := (hb.cell (World.block_lt_of_cell? _ _ (hHeld.2.2.2.2.2.2.2.2.1))).trans (hHeld.2.2.2.2.2.2.2.2.1)
                    have HS9_ := (hb.cell (World.block_lt_of_cell? _ _ (hHeld.2.2.2.2.2.2.2.2.2.1))).trans (hHeld.2.2.2.2.2.2.2.2.2.1)
                    have HS10_ := (hb.cell (World.block_lt_of_cell? _ _ (hHeld.2.2.2.2.2.2.2.2.2.2.1))).trans (hHeld.2.2.2.2.2.2.2.2.2.2.1)
                    have HS11_ := (hb.cell (World.block_lt_of_cell? _ _ (hHeld.2.2.2.2.2.2.2.2.2.2.2.1))).trans (hHeld.2.2.2.2.2.2.2.2.2.2.2.1)
                    have HS12_ := (hb.cell (World.block_lt_of_cell? _ _ (hHeld.2.2.2.2.2.2.2.2.2.2.2.2.1))).trans (hHeld.2.2.2.2.2.2.2.2.2.2.2.2.1)
                    have HS13_ := (hb.cell (World.block_lt_of_cell? _ _ (hHeld.2.2.2.2.2.2.2.2.2.2.2.2.2.1))).trans (hHeld.2.2.2.2.2.2.2.2.2.2.2.2.2.1)
                    have HS14_ := (hb.cell (World.block_lt_of_cell? _ _ (hHeld.2.2.2.2.2.2.2.2.2.2.2.2.2.2.1))).trans (hHeld.2.2.2.2.2.2.2.2.2.2.2.2.2.2.1)
                    have HS15_ := (hb.cell (World.block_lt_of_cell? _ _ (hHeld.2.2.2.2.2.2.2.2.2.2.2.2.2.2.2.1))).trans (hHeld.2.2.2.2.2.2.2.2.2.2.2.2.2.2.2.1)
                    have HS16_ := (hb.cell (World.block_lt_of_cell? _ _ (hHeld.2.2.2.2.2.2.2.2.2.2.2.2.2.2.2.2.1))).trans (hHeld.2.2.2.2.2.2.2.2.2.2.2.2.2.2.2.2.1)
                    have HS17_ := (hb.cell (World.block_lt_of_cell? _ _ (hHeld.2.2.2.2.2.2.2.2.2.2.2.2.2.2.2.2.2.1))).trans (hHeld.2.2.2.2.2.2.2.2.2.2.2.2.2.2.2.2.2.1)
                    have HS18_ := (hb.cell (World.block_lt_of_cell? _ _ (hHeld.2.2.2.2.2.2.2.2.2.2.2.2.2.2.2.2.2.2.1))).trans (hHeld.2.2.2.2.2.2.2.2.2.2.2.2.2.2.2.2.2.2.1)
                    have HS19_ := (hb.cell (World.block_lt_of_cell? _ _ (hHeld.2.2.2.2.2.2.2.2.2.2.2.2.2.2.2.2.2.2.2.1))).trans (hHeld.2.2.2.2.2.2.2.2.2.2.2.2.2.2.2.2.2.2.2.1)
                    have HS20_ := (hb.cell (World.block_lt_of_cell? _ _ (hHeld.2.2.2.2.2.2.2.2.2.2.2.2.2.2.2.2.2.2.2.2.1))).trans (hHeld.2.2.2.2.2.2.2.2.2.2.2.2.2.2.2.2.2.2.2.2.1)
                    have HS21_ := (hb.cell (World.block_lt_of_cell? _ _ (hHeld.2.2.2.2.2.2.2.2.2.2.2.2.2.2.2.2.2.2.2.2.2.1))).trans (hHeld.2.2.2.2.2.2.2.2.2.2.2.2.2.2.2.2.2.2.2.2.2.1)
                    have HS22_ := (hb.cell (World.block_lt_of_cell? _ _ (hHeld.2.2.2.2.2.2.2.2.2.2.2.2.2.2.2.2.2.2.2.2.2.2.1))).trans (hHeld.2.2.2.2.2.2.2.2.2.2.2.2.2.2.2.2.2.2.2.2.2.2.1)
                    have HS23_ := (hb.cell (World.block_lt_of_cell? _ _ (hHeld.2.2.2.2.2.2.2.2.2.2.2.2.2.2.2.2.2.2.2.2.2.2.2))).trans (hHeld.2.2.2.2.2.2.2.2.2.2.2.2.2.2.2.2.2.2.2.2.2.2.2)
                    refine ⟨_, rfl, ?_⟩
                    have n0_ := Aside0.mk (Kd.N_below (by (with_reducible repeat (first | apply Kd.N_alloc | apply Kd.N_drewN | apply Kd.N_drew)); exact HO_4.out) hb)
                    have n1_ := Aside0.mk (Kd.N_below (by (with_reducible repeat (first | apply Kd.N_alloc | apply Kd.N_drewN | apply Kd.N_drew)); exact HO_5.out) hb)
                    have n2_ := Aside0.mk (Kd.V_below (by (with_reducible repeat (first | apply Kd.V_alloc | apply Kd.V_drewN | apply Kd.V_drew)); exact HL374_10.out) hb)
                    have n3_ := Aside0.mk (Kd.V_below (by (with_reducible repeat (first | apply Kd.V_alloc | apply Kd.V_drewN | apply Kd.V_drew)); exact HL376_10.out) hb)
                    have n4_ := Aside0.mk (Kd.C_below (by repeat (first | (with_reducible exact HR374_10.out) | (with_reducible refine Kd.C_alloc ?_ _) | (with_reducible refine Kd.C_drewN ?_ _) | (with_reducible refine Kd.C_drew ?_) | exact HR374_10.out)) hb)
                    have n5_ := Aside0.mk (Kd.C_below (by repeat (first | (with_reducible exact HR376_10.out) | (with_reducible refine Kd.C_alloc ?_ _) | (with_reducible refine Kd.C_drewN ?_ _) | (with_reducible refine Kd.C_drew ?_) | exact HR376_10.out)) hb)
                    have n6_ := Aside0.mk (below_step (by repeat (first | (with_reducible first | exact HB.out | apply below_alloc | apply pw_below_drewN | apply below_drew1) | exact HB.out)) hb)
                    clear HO_4
                    clear HO_5
                    clear HL374_10
                    clear HL376_10
                    clear HR374_10
                    clear HR376_10
                    clear HB
                    have HO_4 := n0_
                    have HO_5 := n1_
                    have HL374_10 := n2_
                    have HL376_10 := n3_
                    have HR374_10 := n4_
                    have HR376_10 := n5_
                    have HB := n6_
                    clear n0_ n1_ n2_ n3_ n4_ n5_ n6_
                    (try clear hb)
                    (try clear hb2)
                    (try clear hk)
                    (try clear hi)
                    obtain ⟨Ao138, co138, eo138⟩ := Kd.N_slice HO_4.out
                    (first | subst eo138 | (injection eo138 with f1_ f2_ f3_; have f4_ := f1_.symm; have f5_ := f3_.symm; clear f1_ f2_ f3_; subst f4_; subst f5_))
                    refine hK.out _ _ ⟨HS0_, HS1_, HS2_, HS3_, HS4_, HS5_, HS6_, HS7_, HS8_, HS9_, HS10_, HS11_, HS12_, HS13_, HS14_, HS15_, HS16_, HS17_, HS18_, HS19_, HS20_, HS21_, HS22_, HS23_⟩ (fun hHeld => ?_)
                    clear hK K
                    refine norm_ (a' := ?_) ?_ ?_
                    rotate_left
                    · show Act.put _ (some 129) _ = _
                      simp only [Act.put, List.setIfInBounds_toArray, List.set_cons_zero, List.set_cons_succ, i64_w, i32_w]
                      rfl
                    refine one_ (i := 11) (N := some 135) #[true, true, true, true, true, true, true, true, true, true, true, true, false] rfl rfl (one_of HT_.out (by kernel_rfl)) (by decide) (fun K hK => ?_)
                    refine goes_ Try.func18 (by kernel_rfl) rfl #[.slice Ao138 x4_1.length co138, .agg #[.int .i64 ((rd_T32 x5_1 x15_2).f0), .int .i64 ((rd_T32 x5_1 x15_2).f1), .int .i64 ((rd_T32 x5_1 x15_2).f2), .int .i64 ((rd_T32 x5_1 x15_2).f3), .int .i64 ((rd_T32 x5_1 x15_2).f4), .int .i64 ((rd_T32 x5_1 x15_2).f5), .int .u64 ((rd_T32 x5_1 x15_2).f6), .int .i64 ((rd_T32 x5_1 x15_2).f7.f0), .int .i64 ((rd_T32 x5_1 x15_2).f7.f1), .int .i64 ((rd_T32 x5_1 x15_2).f7.f2), .slice A374_10 ((rd_T32 x5_1 x15_2).f7.f3).length c374_10, .string ((rd_T32 x5_1 x15_2).f8)]] (by rfl) rfl rfl (by (try simp only [List.map_toArray, List.map_cons, List.map_nil]); first | done | rfl | (simp only [List.length_drop, List.length_take]; rfl)) ?_
                    with_reducible refine (skirmishlaw48_count.calls k2 _ _ x4_1 ((rd_T32 x5_1 x15_2).f0) ((rd_T32 x5_1 x15_2).f1) ((rd_T32 x5_1 x15_2).f2) ((rd_T32 x5_1 x15_2).f3) ((rd_T32 x5_1 x15_2).f4) ((rd_T32 x5_1 x15_2).f5) ((rd_T32 x5_1 x15_2).f6) ((rd_T32 x5_1 x15_2).f7.f0) ((rd_T32 x5_1 x15_2).f7.f1) ((rd_T32 x5_1 x15_2).f7.f2) _ _ ((rd_T32 x5_1 x15_2).f7.f3) ((rd_T32 x5_1 x15_2).f8) t377 _ ?side1 ?side2 ?side3 ?side4 A128.out).mono ?_
                    (case side1 => repeat (first | exact (Kd.N_reads' HO_4.out).2.2 | (with_reducible refine Kd.C_alloc ?_ _) | (with_reducible refine Kd.C_drewN ?_ _) | (with_reducible refine Kd.C_drew ?_)))
                    (case side2 => exact (Kd.N_reads' HO_4.out).2.1)
                    (case side3 => repeat (first | exact (by repeat (first | (with_reducible exact HR376_10.out) | (with_reducible refine Kd.C_alloc ?_ _) | (with_reducible refine Kd.C_drewN ?_ _) | (with_reducible refine Kd.C_drew ?_) | exact HR376_10.out)) | (with_reducible refine Kd.C_alloc ?_ _) | (with_reducible refine Kd.C_drewN ?_ _) | (with_reducible refine Kd.C_drew ?_)))
                    (case side4 => exact HC376_10.out)
                    rintro e w139 ⟨rfl, hb⟩
                    have HS0_ := (hb.cell (World.block_lt_of_cell? _ _ (hHeld.1))).trans (hHeld.1)
                    have HS1_ := (hb.cell (World.block_lt_of_cell? _ _ (hHeld.2.1))).trans (hHeld.2.1)
                    have HS2_ := (hb.cell (World.block_lt_of_cell? _ _ (hHeld.2.2.1))).trans (hHeld.2.2.1)
                    have HS3_ := (hb.cell (World.block_lt_of_cell? _ _ (hHeld.2.2.2.1))).trans (hHeld.2.2.2.1)
                    have HS4_ := (hb.cell (World.block_lt_of_cell? _ _ (hHeld.2.2.2.2.1))).trans (hHeld.2.2.2.2.1)
                    have HS5_ := (hb.cell (World.block_lt_of_cell? _ _ (hHeld.2.2.2.2.2.1))).trans (hHeld.2.2.2.2.2.1)
                    have HS6_ := (hb.cell (World.block_lt_of_cell? _ _ (hHeld.2.2.2.2.2.2.1))).trans (hHeld.2.2.2.2.2.2.1)
                    have HS7_ := (hb.cell (World.block_lt_of_cell? _ _ (hHeld.2.2.2.2.2.2.2.1))).trans (hHeld.2.2.2.2.2.2.2.1)
                    have HS8_ := (hb.cell (World.block_lt_of_cell? _ _ (hHeld.2.2.2.2.2.2.2.2.1))).trans (hHeld.2.2.2.2.2.2.2.2.1)
                    have HS9_ := (hb.cell (World.block_lt_of_cell? _ _ (hHeld.2.2.2.2.2.2.2.2.2.1))).trans (hHeld.2.2.2.2.2.2.2.2.2.1)
                    have HS10_ := (hb.cell (World.block_lt_of_cell? _ _ (hHeld.2.2.2.2.2.2.2.2.2.2.1))).trans (hHeld.2.2.2.2.2.2.2.2.2.2.1)
                    have HS11_ := (hb.cell (World.block_lt_of_cell? _ _ (hHeld.2.2.2.2.2.2.2.2.2.2.2.1))).trans (hHeld.2.2.2.2.2.2.2.2.2.2.2.1)
                    have HS12_ := (hb.cell (World.block_lt_of_cell? _ _ (hHeld.2.2.2.2.2.2.2.2.2.2.2.2.1))).trans (hHeld.2.2.2.2.2.2.2.2.2.2.2.2.1)
                    have HS13_ := (hb.cell (World.block_lt_of_cell? _ _ (hHeld.2.2.2.2.2.2.2.2.2.2.2.2.2.1))).trans (hHeld.2.2.2.2.2.2.2.2.2.2.2.2.2.1)
                    have HS14_ := (hb.cell (World.block_lt_of_cell? _ _ (hHeld.2.2.2.2.2.2.2.2.2.2.2.2.2.2.1))).trans (hHeld.2.2.2.2.2.2.2.2.2.2.2.2.2.2.1)
                    have HS15_ := (hb.cell (World.block_lt_of_cell? _ _ (hHeld.2.2.2.2.2.2.2.2.2.2.2.2.2.2.2.1))).trans (hHeld.2.2.2.2.2.2.2.2.2.2.2.2.2.2.2.1)
                    have HS16_ := (hb.cell (World.block_lt_of_cell? _ _ (hHeld.2.2.2.2.2.2.2.2.2.2.2.2.2.2.2.2.1))).trans (hHeld.2.2.2.2.2.2.2.2.2.2.2.2.2.2.2.2.1)
                    have HS17_ := (hb.cell (World.block_lt_of_cell? _ _ (hHeld.2.2.2.2.2.2.2.2.2.2.2.2.2.2.2.2.2.1))).trans (hHeld.2.2.2.2.2.2.2.2.2.2.2.2.2.2.2.2.2.1)
                    have HS18_ := (hb.cell (World.block_lt_of_cell? _ _ (hHeld.2.2.2.2.2.2.2.2.2.2.2.2.2.2.2.2.2.2.1))).trans (hHeld.2.2.2.2.2.2.2.2.2.2.2.2.2.2.2.2.2.2.1)
                    have HS19_ := (hb.cell (World.block_lt_of_cell? _ _ (hHeld.2.2.2.2.2.2.2.2.2.2.2.2.2.2.2.2.2.2.2.1))).trans (hHeld.2.2.2.2.2.2.2.2.2.2.2.2.2.2.2.2.2.2.2.1)
                    have HS20_ := (hb.cell (World.block_lt_of_cell? _ _ (hHeld.2.2.2.2.2.2.2.2.2.2.2.2.2.2.2.2.2.2.2.2.1))).trans (hHeld.2.2.2.2.2.2.2.2.2.2.2.2.2.2.2.2.2.2.2.2.1)
                    have HS21_ := (hb.cell (World.block_lt_of_cell? _ _ (hHeld.2.2.2.2.2.2.2.2.2.2.2.2.2.2.2.2.2.2.2.2.2.1))).trans (hHeld.2.2.2.2.2.2.2.2.2.2.2.2.2.2.2.2.2.2.2.2.2.1)
                    have HS22_ := (hb.cell (World.block_lt_of_cell? _ _ (hHeld.2.2.2.2.2.2.2.2.2.2.2.2.2.2.2.2.2.2.2.2.2.2.1))).trans (hHeld.2.2.2.2.2.2.2.2.2.2.2.2.2.2.2.2.2.2.2.2.2.2.1)
                    have HS23_ := (hb.cell (World.block_lt_of_cell? _ _ (hHeld.2.2.2.2.2.2.2.2.2.2.2.2.2.2.2.2.2.2.2.2.2.2.2))).trans (hHeld.2.2.2.2.2.2.2.2.2.2.2.2.2.2.2.2.2.2.2.2.2.2.2)
                    refine ⟨_, rfl, ?_⟩
                    have n0_ := Aside0.mk (Kd.N_below (by (with_reducible repeat (first | apply Kd.N_alloc | apply Kd.N_drewN | apply Kd.N_drew)); exact HO_4.out) hb)
                    have n1_ := Aside0.mk (Kd.N_below (by (with_reducible repeat (first | apply Kd.N_alloc | apply Kd.N_drewN | apply Kd.N_drew)); exact HO_5.out) hb)
                    have n2_ := Aside0.mk (Kd.V_below (by (with_reducible repeat (first | apply Kd.V_alloc | apply Kd.V_drewN | apply Kd.V_drew)); exact HL374_10.out) hb)
                    have n3_ := Aside0.mk (Kd.V_below (by (with_reducible repeat (first | apply Kd.V_alloc | apply Kd.V_drewN | apply Kd.V_drew)); exact HL376_10.out) hb)
                    have n4_ := Aside0.mk (Kd.C_below (by repeat (first | (with_reducible exact HR374_10.out) | (with_reducible refine Kd.C_alloc ?_ _) | (with_reducible refine Kd.C_drewN ?_ _) | (with_reducible refine Kd.C_drew ?_) | exact HR374_10.out)) hb)
                    have n5_ := Aside0.mk (Kd.C_below (by repeat (first | (with_reducible exact HR376_10.out) | (with_reducible refine Kd.C_alloc ?_ _) | (with_reducible refine Kd.C_drewN ?_ _) | (with_reducible refine Kd.C_drew ?_) | exact HR376_10.out)) hb)
                    have n6_ := Aside0.mk (below_step (by repeat (first | (with_reducible first | exact HB.out | apply below_alloc | apply pw_below_drewN | apply below_drew1) | exact HB.out)) hb)
                    clear HO_4
                    clear HO_5
                    clear HL374_10
                    clear HL376_10
                    clear HR374_10
                    clear HR376_10
                    clear HB
                    have HO_4 := n0_
                    have HO_5 := n1_
                    have HL374_10 := n2_
                    have HL376_10 := n3_
                    have HR374_10 := n4_
                    have HR376_10 := n5_
                    have HB := n6_
                    clear n0_ n1_ n2_ n3_ n4_ n5_ n6_
                    (try clear hb)
                    (try clear hb2)
                    (try clear hk)
                    (try clear hi)
                    refine hK.out _ _ ⟨HS0_, HS1_, HS2_, HS3_, HS4_, HS5_, HS6_, HS7_, HS8_, HS9_, HS10_, HS11_, HS12_, HS13_, HS14_, HS15_, HS16_, HS17_, HS18_, HS19_, HS20_, HS21_, HS22_, HS23_⟩ (fun hHeld => ?_)
                    clear hK K
                    refine norm_ (a' := ?_) ?_ ?_
                    rotate_left
                    · show Act.put _ (some 135) _ = _
                      simp only [Act.put, List.setIfInBounds_toArray, List.set_cons_zero, List.set_cons_succ, i64_w, i32_w]
                      rfl
                    refine pure_ (i := 12) (N := some 136) (v := ?_) (a' := ?_) #[true, true, true, true, true, true, true, true, true, true, true, true, true] rfl rfl (any_of HT_.out (by kernel_rfl)) (fun _ _ _ h => h) (Or.inl ⟨by rfl, ?_⟩) ?_ ?_
                    rotate_left
                    · intro w'
                      go_simp
                      with_reducible rfl
                    rotate_left
                    · simp only [Act.put, List.setIfInBounds_toArray, List.set_cons_zero, List.set_cons_succ, i64_w, i32_w]
                      rfl
                    refine done_ (done_of HT_.out (by kernel_rfl)) ?_
                    try go_wp2
                    go_roundg k2
                    case measure => have := HK1.out; have := HK2.out; omega
                    case rel => exact ⟨(wrap64 (x15_2 + 1)), (by first | rfl | (simp; done) | (simp [*]; done)), H', ⟨by have := HK1.out; have := HK2.out; omega⟩, ⟨by (with_reducible repeat (first | apply Kd.N_alloc | apply Kd.N_drewN | apply Kd.N_drew)); exact HO_4.out⟩, ⟨by (with_reducible repeat (first | apply Kd.N_alloc | apply Kd.N_drewN | apply Kd.N_drew)); exact HO_5.out⟩, ⟨by repeat (first | (with_reducible first | exact HB.out | apply below_alloc | apply pw_below_drewN | apply below_drew1) | exact HB.out)⟩⟩
                · rw [if_neg c126] at H
                  exact absurd H (by simp)
              · rw [if_neg c125] at H
                have c125b0 : decide (x15_2 < (x5_1.length : Int)) = false := decide_eq_false c125
                clear c125
                replace H := Option.bind_eq_some_iff.mp H
                obtain ⟨t373, A1400, H⟩ := H
                replace H : (some t373) = some r := H
                have A140 := Aside0.mk A1400
                clear A1400
                obtain rfl := Option.some.inj H
                obtain ⟨Ao141, co141, eo141⟩ := Kd.N_slice HO_5.out
                subst eo141
                go_wp2_with (first | ((with_reducible refine gate_callee (f := 8) rfl ?_); refine goesL_ (some 137) rfl rfl Try.func8 (by kernel_rfl) rfl #[] rfl (by (try simp only [List.map_toArray, List.map_cons, List.map_nil]); first | done | rfl | (simp only [List.length_drop, List.length_take]; rfl)) ?_; (with_reducible refine (skirmishlaw48_awake.calls k2 t373 Hr.out _ A140.out).mono ?_); rintro e w142 ⟨rfl, hb⟩; refine ⟨_, rfl, ?_⟩; have n0_ := Aside0.mk (Kd.N_below (by (with_reducible repeat (first | apply Kd.N_alloc | apply Kd.N_drewN | apply Kd.N_drew)); exact HO_4.out) hb); have n1_ := Aside0.mk (Kd.N_below (by (with_reducible repeat (first | apply Kd.N_alloc | apply Kd.N_drewN | apply Kd.N_drew)); exact HO_5.out) hb); have n2_ := Aside0.mk (below_step (by repeat (first | (with_reducible first | exact HB.out | apply below_alloc | apply pw_below_drewN | apply below_drew1) | exact HB.out)) hb); clear HO_4; clear HO_5; clear HB; have HO_4 := n0_; have HO_5 := n1_; have HB := n2_; clear n0_ n1_ n2_; (try clear hb); (try clear hb2); (try clear hk); (try clear hi)))
                go_ret
                exact ⟨by first | rfl | (simp [errW_none, errW_some] <;> rfl) | (simp [*, errW_none, errW_some] <;> rfl), by repeat (first | (with_reducible first | exact HB.out | apply below_alloc | apply pw_below_drewN | apply below_drew1) | exact HB.out)⟩


end Go.Proofs.Ytcpnmlmghjhelaa.F
