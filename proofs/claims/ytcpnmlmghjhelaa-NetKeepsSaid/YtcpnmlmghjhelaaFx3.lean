/- Functions that the laws of this seat reach: for each a plain function, and a proof that the Go code comes to its answers. Out of the kit's print program; mended by hand where it fell. -/
import Derived.Test.YtcpnmlmghjhelaaFx0
import Derived.Test.YtcpnmlmghjhelaaFx2
import Derived.Lib.SliceRun
import Derived.StillTailTactics
namespace Go.Proofs.Ytcpnmlmghjhelaa.F
open Go.RowKit Go.Proofs.YtcpnmlmghjhelaaW.PrintWords Go.Proofs.YtcpnmlmghjhelaaW.PrintLast Go.Proofs.YtcpnmlmghjhelaaW.PrintMore
attribute [local go_sem] max2_int min2_int max_two min_two max_three min_three max_four min_four   -- for this text's walks alone
set_option linter.unusedVariables false
set_option linter.unusedSimpArgs false

/-! ### net_without: function 21 -/
def net_without.f (l0 : List (S32)) (a1 : Int) : Option ((List (S32))) := (some (([] : List (S32)) : List (S32))).bind fun y130 => (if 0 ≤ a1 then (if a1 ≤ (l0.length : Int) then ((some (l0.take (a1 : Int).toNat : List (S32))).bind fun y133 => (if y130.length + y133.length < 1172812402961 then ((some (y130 ++ y133 : List (S32))).bind fun y138 => (if 0 ≤ (wrap64 (a1 + 1)) then (if (wrap64 (a1 + 1)) ≤ (l0.length : Int) then ((some (l0.drop ((wrap64 (a1 + 1)) : Int).toNat : List (S32))).bind fun y141 => (if y138.length + y141.length < 1172812402961 then (some (y138 ++ y141)) else (none))) else (none)) else (none))) else (none))) else (none)) else (none))
/-- copy: all is read before anything is written; whatever the elements' size. -/
theorem run_copy_sz (w : World) (dT sT ty elem : TypeId) (sz b o dLen dCap : Nat) (a : Addr) (sLen sCap : Nat) (cs : List Value)
    (hu : Try.prog.underlying dT = some (.slice elem)) (hs : (Try.prog.info? elem).map (·.size) = some sz) (hn : cs.length = Nat.min sLen dLen * sz)
    (hsrc : ∀ j v, cs[j]? = some v → w.cell? (a.add j) = some v) (hc : ∀ j, j < cs.length → (w.cell? ⟨b, o + j, none⟩).isSome = true) (hf : ∀ j, j < cs.length → w.frozen? ⟨b, o + j, none⟩ = false) (h1 : ∀ v ∈ cs, v.oneCell' = true) :
    (Builtin.copy_ #[dT, sT] ty #[.slice (some ⟨b, o, none⟩) dLen dCap, .slice (some a) sLen sCap]).run Try.prog w = .ok (goInt (Nat.min sLen dLen)) (w.setCells b o cs) := by
  have hl := run_loadCells_list (P := Try.prog) w a cs hsrc
  have hst := run_storeCells_cells (P := Try.prog) b o cs 0 w (by simpa using hc) (by simpa using hf) h1
  cases hq : Try.prog.info? elem with
  | none => simp [hq] at hs
  | some i =>
    have hi : i.size = sz := by simpa [hq] using hs
    simp [Builtin.copy_, run_underlying hu, Builtin.lenOf, Builtin.firstCells, sizeOf, typeInfo, hq, hi, ← hn, hl, hst]
theorem run_copy_nil (w : World) (dT sT ty elem : TypeId) (sz : Nat) (d a : Option Addr) (dLen dCap sLen sCap : Nat) (hu : Try.prog.underlying dT = some (.slice elem)) (hs : (Try.prog.info? elem).map (·.size) = some sz) (hn : Nat.min sLen dLen = 0) :
    (Builtin.copy_ #[dT, sT] ty #[.slice d dLen dCap, .slice a sLen sCap]).run Try.prog w = .ok (goInt 0) w := by
  cases hq : Try.prog.info? elem with
  | none => simp [hq] at hs
  | some i =>
    have hl : ∀ (x : Addr), (loadCells x 0).run Try.prog w = .ok #[] w := fun x => by simpa using run_loadCells_list (P := Try.prog) w x [] (by simp)
    cases d <;> cases a <;> simp [Builtin.copy_, run_underlying hu, Builtin.lenOf, Builtin.firstCells, sizeOf, typeInfo, hq, hn, storeCells, hl]
/-- copy into a block of packets: what stands there then, and nothing else has turned. -/
theorem copy_gen (w : World) (g : Nat) (cur : Array Value) (hh : w.heap[g]? = some (.cells cur 32 (0, 0))) (d : Option Addr) (dl dc : Nat) (a : Option Addr) (sl sc o : Nat) (cs : List Value) (hk : cs.length = Nat.min sl dl * 12)
    (hd : 0 < Nat.min sl dl → d = some ⟨g, o, none⟩) (ha : 0 < Nat.min sl dl → ∃ ad, a = some ad ∧ ∀ j u, cs[j]? = some u → w.cell? (ad.add j) = some u) (hfit : o + cs.length ≤ cur.size) (h1 : ∀ u ∈ cs, u.oneCell' = true) :
    ∃ w' cur', (Builtin.copy_ #[22, 22] 3 #[.slice d dl dc, .slice a sl sc]).run Try.prog w = .ok (goInt (Nat.min sl dl)) w' ∧ w'.heap[g]? = some (.cells cur' 32 (0, 0)) ∧ cur'.size = cur.size ∧ cur'.toList = cur.toList.take o ++ cs ++ cur.toList.drop (o + cs.length) ∧ w.grownBy w' (some g) := by
  have hs : (Try.prog.info? 32).map (·.size) = some 12 := by kernel_rfl
  rcases Nat.eq_zero_or_pos (Nat.min sl dl) with h0 | hp
  · rw [h0, Nat.zero_mul] at hk
    obtain rfl := List.eq_nil_of_length_eq_zero hk
    refine ⟨w, cur, ?_, hh, rfl, by simp, World.grownBy.refl w _⟩
    rw [h0]
    exact run_copy_nil w 22 22 3 32 12 d a dl dc sl sc Try.underlying22 hs h0
  · obtain ⟨ad, rfl, hsrc⟩ := ha hp
    obtain rfl := hd hp
    obtain ⟨cur', h3, h4, h5⟩ := setCells_row cs o w cur hh hfit
    obtain ⟨s1, s2, s3, s4⟩ := setCells_same g cs o w
    refine ⟨_, cur', run_copy_sz w 22 22 3 32 12 g o dl dc ad sl sc cs Try.underlying22 hs hk hsrc (fun j hj => ?_) (fun j _ => blk_frozen hh _) h1, h3, h4, h5, s1, s2, s3, by rw [s4]; exact Nat.le_refl _, fun k _ hk => setCells_far _ _ k (fun he => hk (by rw [he]))⟩
    rw [cell_of_row w g _ cur 32 (0, 0) hh]
    simp
    omega
theorem without_f {l0 : List S32} {a1 : Int} {r : List S32} (hb : l0.length ≤ 9223372036854775807) (h : net_without.f l0 a1 = some r) : ∃ a : Nat, a1 = (a : Int) ∧ a < l0.length ∧ r = l0.take a ++ l0.drop (a + 1) ∧ l0.length ≤ 1172812402961 := by
  unfold net_without.f at h
  simp only [Option.bind_some] at h
  by_cases c1 : 0 ≤ a1
  · obtain ⟨a, rfl⟩ := Int.eq_ofNat_of_zero_le c1
    rw [if_pos c1] at h
    by_cases c2 : (a : Int) ≤ (l0.length : Int)
    · rw [if_pos c2] at h
      by_cases c3 : ([] : List S32).length + (l0.take (a : Int).toNat).length < 1172812402961
      · rw [if_pos c3] at h
        by_cases c4 : 0 ≤ wrap64 ((a : Int) + 1)
        · rw [if_pos c4] at h
          have e : wrap64 ((a : Int) + 1) = (a : Int) + 1 := by unfold wrap64 at c4 ⊢; omega
          rw [e] at h
          by_cases c5 : (a : Int) + 1 ≤ (l0.length : Int)
          · rw [if_pos c5] at h
            have e2 : ((a : Int) + 1).toNat = a + 1 := by omega
            rw [e2, Int.toNat_natCast] at h
            split at h
            · rename_i c6
              rw [List.nil_append] at h c6
              rw [List.length_take, List.length_drop] at c6
              exact ⟨a, rfl, by omega, (Option.some.inj h).symm, by omega⟩
            · cases h
          · rw [if_neg c5] at h; cases h
        · rw [if_neg c4] at h; cases h
      · rw [if_neg c3] at h; cases h
    · rw [if_neg c2] at h; cases h
  · rw [if_neg c1] at h; cases h
theorem made_form {W w1 : World} {base : Nat} {ok : Nat → Prop} {v : Value} {m : Nat} {z : S32} (hN : Kd.N k32 32 w1 base ok v (List.replicate m z)) (hat : ∃ b, v.ownBlock = some b ∧ W.heap.size ≤ b) :
    ∃ g cap cur, v = .slice (some ⟨g, 0, none⟩) m cap ∧ W.heap.size ≤ g ∧ base ≤ g ∧ w1.heap[g]? = some (.cells cur 32 (0, 0)) ∧ m ≤ cap ∧ cap ≤ maxLen ∧ cur.size = cap * 12 := by
  obtain ⟨hown, rows, hrl, ⟨_, inner0, hO, _⟩, _⟩ := hN
  rw [List.length_replicate] at hrl
  rw [hrl] at hO
  obtain ⟨b, hb, hle⟩ := hat
  rcases hO.2 with ⟨rfl, _⟩ | ⟨g, cap, cur, rfl, h1, h2, h3, h4, h5, _⟩
  · simp [Value.ownBlock] at hb
  · have : g = b := by simpa [Value.ownBlock] using hb
    subst this
    exact ⟨g, cap, cur, rfl, hle, h1, h2, h3, h4, h5⟩
theorem reps_one {ok : Nat → Prop} {w : World} {xs : List S32} {inner : List Value} (h : Reps (Kd.FK k32 w ok) 12 xs inner) : ∀ u ∈ inner, u.oneCell' = true := by
  intro u hu
  obtain ⟨q, hq, rfl⟩ := List.mem_iff_getElem.1 hu
  have hql : q / 12 < xs.length := by have := h.1; omega
  have hc := h.2 (q / 12) _ (List.getElem?_eq_getElem hql)
  refine k32.K_one (Kd.FK_now hc) _ ?_
  rw [List.mem_iff_getElem?]
  exact ⟨q % 12, by rw [List.getElem?_take, if_pos (Nat.mod_lt _ (by omega)), List.getElem?_drop, Nat.mul_comm, Nat.div_add_mod, List.getElem?_eq_getElem hq]⟩
theorem reps_take {R : S32 → List Value → Prop} {xs : List S32} {inner : List Value} (h : Reps R 12 xs inner) (k : Nat) (hk : k ≤ xs.length) : Reps R 12 (xs.take k) (inner.take (k * 12)) := by
  have h1 := h.1
  refine ⟨by rw [List.length_take, List.length_take]; omega, fun j p hj => ?_⟩
  have hjk : j < k := by
    have := (List.getElem?_eq_some_iff.1 hj).1
    rw [List.length_take] at this
    omega
  rw [List.getElem?_take_of_lt hjk] at hj
  have := h.2 j p hj
  rw [List.drop_take, List.take_take, Nat.min_eq_left (by omega)]
  exact this
theorem reps_drop {R : S32 → List Value → Prop} {xs : List S32} {inner : List Value} (h : Reps R 12 xs inner) (k : Nat) (hk : k ≤ xs.length) : Reps R 12 (xs.drop k) (inner.drop (k * 12)) := by
  have h1 := h.1
  refine ⟨by rw [List.length_drop, List.length_drop]; omega, fun j p hj => ?_⟩
  rw [List.getElem?_drop] at hj
  have := h.2 (k + j) p hj
  rw [List.drop_drop, ← Nat.add_mul]
  exact this
theorem N_of_own {e : Nat} {w : World} {base : Nat} {ok : Nat → Prop} {v : Value} {xs : List S32} {inner : List Value} (h0 : ∀ k, v.ownBlock = some k → ok k) (ho : w.ownsRow base e 12 v xs.length inner) (hr : Reps (Kd.FK k32 w (fun k => ok k ∧ some k ≠ v.ownBlock)) 12 xs inner) : Kd.N k32 e w base ok v xs := by
  refine ⟨h0, Kd.chunks 12 xs.length inner, Kd.chunks_length _ _ _, ⟨fun k hk => hk.symm, inner, by rw [Kd.chunks_length]; exact ho, Kd.reps_raw hr (fun x c hp => ⟨k32.K_len (Kd.FK_now hp), k32.K_one (Kd.FK_now hp)⟩)⟩, fun j x c hx hc => ?_⟩
  rw [Kd.chunks_get hc]
  exact hr.2 j x hx
theorem copy_step {ops : Array Oper} {rest : List Oper} {o : Oper} {a : Act} {Q : Exit → Act → World → Prop} {W w' : World} (hgd : o.guard = none) (s x : Operand) (t t' : TypeId) (ho : o.op = .call { callee := .builtin .copy, args := #[s, x], argTypes := #[t, t'] })
    (v u : Value) {v' : Value} (hs : a.eval s = v) (hx : a.eval x = u) (hr : (Builtin.copy_ #[t, t'] o.type #[v, u]).run Try.prog W = .ok v' w') (h : wpList Try.prog ops Q rest (a.put o.dst v') w') : wpList Try.prog ops Q (o :: rest) a W := by
  refine wpList_plain hgd fun K hK => ?_
  unfold Oper.wp execOp
  simp only [ho, resolve, invoke, builtin, Sem.run_bind, Sem.run_pure, Result.andThen_ok, List.map_toArray, List.map_cons, List.map_nil, hs, hx, hr]
  exact hK _ _ h
theorem take_get {xs : List Value} {k j : Nat} {u : Value} (h : (xs.take k)[j]? = some u) : xs[j]? = some u := by
  have := (List.getElem?_eq_some_iff.1 h).1
  rw [List.length_take] at this
  rwa [List.getElem?_take_of_lt (by omega)] at h
theorem addr_two (a : Addr) (i j : Nat) : (a.add i).add j = a.add (i + j) := by
  by_cases hi : i = 0
  · subst hi
    rw [Addr.add_zero', Nat.zero_add]
  · by_cases hj : j = 0
    · subst hj
      rw [Addr.add_zero', Nat.add_zero]
    · have h3 : ¬ i + j = 0 := by omega
      simp [Addr.add, hi, hj, Nat.add_assoc]
set_option maxHeartbeats 8000000 in
set_option maxRecDepth 100000 in
theorem net_without.calls (P0_ : Nat → Prop) (A0 : Option Addr) (c0 : Nat) (l0 : List (S32)) (a1 : Int) (r : List (S32)) (w : World) (hs0 : Kd.V k32 32 w w.heap.size (fun k_ => P0_ k_) (.slice A0 l0.length c0) l0) (h : net_without.f l0 a1 = some r) :
    Calls Try.prog 21 #[.slice A0 l0.length c0, .int .i64 a1] w fun e w' => ∃ v0_ : Value, e = .returned (v0_) ∧ Kd.N k32 32 w' w.heap.size (fun k_ => (P0_ k_ ∨ w.heap.size ≤ k_)) v0_ r ∧ Below w.heap.size w w' := by
  have hF := Kd.V_F hs0
  have hrows := Kd.F_rows hF
  obtain ⟨a, rfl, hlt, rfl, hbig⟩ := without_f (Kd.F_max hF) h
  obtain ⟨ad, rfl, _⟩ := hrows.2.2 (by omega)
  obtain ⟨inner, hrep, hcell⟩ := ReadsRow.inner_ hrows
  have hone := reps_one hrep
  have hil : inner.length = l0.length * 12 := hrep.1
  have hc0 : l0.length ≤ c0 := (Kd.V_reads' hs0).2.1
  obtain ⟨m, hm⟩ : ∃ m, l0.length = m + 1 := ⟨l0.length - 1, by omega⟩
  have e1 : wrap64 ((l0.length : Int) - 1) = (m : Int) := by unfold wrap64; omega
  have e2 : wrap64 ((a : Int) + 1) = (a : Int) + 1 := by unfold wrap64; omega
  have e3 : IntKind.i64.wrap ((a : Int) + 1) = (a : Int) + 1 := (i64_w _).trans e2
  have hbl' : (a : Int) + 1 ≤ (l0.length : Int) := by omega
  have hb0 : (0 : Int) ≤ (a : Int) + 1 := by omega
  have hac : (a : Int) ≤ (c0 : Int) := by omega
  have hac2 : a ≤ c0 := by omega
  have ha1 : a + 1 ≤ l0.length := by omega
  have ha1' : ((a + 1 : Nat) : Int) ≤ (l0.length : Int) := by omega
  have ham : a ≤ m := by omega
  have ham' : (a : Int) ≤ (m : Int) := by omega
  have Hm := Aside0.mk hm
  have Hl := Aside0.mk hlt
  have Hb := Aside0.mk hbig
  clear hm hlt hbig
  go_enter Try.func21, Try.ntmps21
  go_wp2_with (first
    | ((with_reducible refine gate_dst (N := 9) rfl ?_); refine Kd.N_make k32 _ 32 rfl (N' := 9) rfl 22 _ _ rfl (m : Int) (congrArg (Value.int .i64) e1) (congrArg (Value.int .i64) e1) Try.underlying22 (.agg #[(.int .i64 0), (.int .i64 0), (.int .i64 0), (.int .i64 0), (.int .i64 0), (.int .i64 0), (.int .u64 0), (.int .i64 0), (.int .i64 0), (.int .i64 0), (.slice none 0 0), (.string ⟨#[]⟩)]) 120 info32 rfl (by decide) (by omega) z32 (ok := fun k_ => w.heap.size ≤ k_) (okp := fun _ => False) (k32_mkF _ _ z32 (Nat.le_refl _) (Kd.F_nil _ _ _)) (fun _ hk => hk.elim) (Nat.le_refl _) (by omega) (by have := Hm.out; have := Hb.out; omega) (Below.refl _ _) (Nat.le_refl _) ?_; intro v1 w1 hN hb1 hg1 hat1; rw [Int.toNat_natCast] at hN; obtain ⟨g, cap, cur, rfl, hge, _, hh1, hmc, hcm, hcs⟩ := made_form hN hat1; have hcell1 := fun j u hj => (hb1.cell (World.block_lt_of_cell? w _ (hcell j u hj))).trans (hcell j u hj); clear hN hat1)
    | ((with_reducible refine gate_dst (N := 14) rfl ?_); obtain ⟨w2, cur2, hr2, hh2, hs2, hl2, hg2⟩ := copy_gen w1 g cur hh1 (some ⟨g, 0, none⟩) m cap (some ad) a c0 0 (inner.take (a * 12)) (by rw [List.length_take, show Nat.min a m = a from Nat.min_eq_left ham]; omega) (fun _ => rfl) (fun _ => ⟨ad, rfl, fun j u hj => hcell1 j u (take_get hj)⟩) (by rw [List.length_take]; omega) (fun u hu => hone u (List.mem_of_mem_take hu)); refine copy_step rfl (.tmp 10) (.tmp 13) 22 22 rfl _ _ rfl rfl hr2 ?_))
  have hmc' : (m : Int) ≤ (cap : Int) := by omega
  have hac3 : (a : Int) ≤ (cap : Int) := by omega
  go_still_tail 7, (by kernel_rfl)
  change wpList _ _ _ _ _ w2.drew
  have hcell2 : ∀ j u, inner[j]? = some u → w2.drew.cell? (ad.add j) = some u := fun j u hj => by
    have h1_ := hcell1 j u hj
    have hlt_ := World.block_lt_of_cell? w _ (hcell j u hj)
    exact hg2.cell h1_ (by simp; omega)
  have hm := Hm.out
  have hlt := Hl.out
  obtain ⟨w3, cur3, hr3, hh3, hs3, hl3, hg3⟩ := copy_gen w2.drew g cur2 hh2 (if cap = a then some ⟨g, 0, none⟩ else some ⟨g, a * 12, none⟩) (m - a) (cap - a) (if c0 = a + 1 then some ad else some (ad.add ((a + 1) * 12))) (l0.length - (a + 1)) (c0 - (a + 1)) (a * 12) (inner.drop ((a + 1) * 12))
    (by show _ = min (l0.length - (a + 1)) (m - a) * 12; rw [List.length_drop]; omega)
    (fun hp => by
      have hp : 0 < min (l0.length - (a + 1)) (m - a) := hp
      rw [if_neg (by omega)])
    (fun hp => by
      have hp : 0 < min (l0.length - (a + 1)) (m - a) := hp
      rw [if_neg (by omega)]
      refine ⟨_, rfl, fun j u hj => ?_⟩
      rw [List.getElem?_drop] at hj
      rw [addr_two]
      exact hcell2 _ _ hj)
    (by rw [List.length_drop, hs2, hcs]; omega) (fun u hu => hone u (List.mem_of_mem_drop hu))
  clear hm hlt
  refine copy_step rfl (.tmp 17) (.tmp 21) 22 22 rfl _ _ rfl rfl hr3 ?_
  go_wp2
  all_goals (
    go_ret
    have hm := Hm.out
    have hlt := Hl.out
    have hb2 : Below w.heap.size w w2 := hb1.grown hg2 (below_size hb1) (by rintro k hk; injection hk with hk; omega)
    have hb2d : Below w.heap.size w w2.drew := below_drew hb2
    have hb3 : Below w.heap.size w w3 := hb2d.grown hg3 (below_size hb2d) (by rintro k hk; injection hk with hk; omega)
    have hrl : (l0.take a ++ l0.drop (a + 1)).length = m := by rw [List.length_append, List.length_take, List.length_drop]; omega
    have hrep3 : Reps (Kd.FK k32 w3 (fun k => (P0_ k ∨ w.heap.size ≤ k) ∧ some k ≠ (Value.slice (some ⟨g, 0, none⟩) m cap).ownBlock)) 12 l0 inner := hrep.imp_ (fun x c hp => Foot.mono (Foot.step (Foot.bound hp) (fun k hk _ => hb3.block k hk.2)) (fun k hk => ⟨.inl hk.1, by simp only [Value.ownBlock, ne_eq, Option.some.injEq]; omega⟩))
    refine ⟨_, rfl, N_of_own (inner := inner.take (a * 12) ++ inner.drop ((a + 1) * 12)) (fun k hk => ?_) ⟨?_, .inr ⟨g, cap, cur3, ?_, hge, hh3, ?_, hcm, ?_, ?_⟩⟩ (Kd.reps_append (reps_take hrep3 a (by omega)) (reps_drop hrep3 (a + 1) (by omega))), hb3⟩
    · have : g = k := by simpa [Value.ownBlock] using hk
      exact .inr (by omega)
    · rw [hrl, List.length_append, List.length_take, List.length_drop]
      omega
    · rw [hrl]
      first | done | rfl | (show Value.slice _ _ _ = Value.slice _ _ _; congr 1; omega)
    · omega
    · rw [hs3, hs2, hcs]
    · rw [hrl, hl3, hl2, List.take_zero, List.nil_append]
      have h1 : (inner.take (a * 12)).length = a * 12 := by rw [List.length_take]; omega
      rw [List.take_left' h1]
      exact List.take_left' (by rw [List.length_append, h1, List.length_drop]; omega))
/-! ### net_Deliver: function 12 -/
def net_Deliver.f (l0 : List (S32)) (a1 : Int) : Option (Int × Int × Int × Int × Int × Int × Int × Int × Int × Int × (List (S49)) × ByteArray × (List (S32)) × Int) := (net_has.f l0 a1).bind fun t150 => (if t150 = true then (if 0 ≤ a1 then (if a1 < (l0.length : Int) then ((net_without.f l0 a1).bind fun t152 => (some ((rd_T32 l0 a1).f0, (rd_T32 l0 a1).f1, (rd_T32 l0 a1).f2, (rd_T32 l0 a1).f3, (rd_T32 l0 a1).f4, (rd_T32 l0 a1).f5, (rd_T32 l0 a1).f6, (rd_T32 l0 a1).f7.f0, (rd_T32 l0 a1).f7.f1, (rd_T32 l0 a1).f7.f2, (rd_T32 l0 a1).f7.f3, (rd_T32 l0 a1).f8, t152, 0))) else (none)) else (none)) else (some (0, 0, 0, 0, 0, 0, 0, 0, 0, 0, ([] : List (S49)), (⟨#[]⟩ : ByteArray), ([] : List (S32)), 8)))
def net_Deliver.T3 : Bool × List (List Nat × List Nat) := (true, [([], []), ([], []), ([0, 1], [0, 1]), ([2], [2]), ([], []), ([], []), ([4, 5], [4, 5]), ([3, 6, 0, 1, 2, 3], [3]), ([6, 7, 0, 1, 2, 3, 4, 5, 6, 7], [6]), ([8, 0, 1, 2, 3, 4, 5, 6, 7, 8], [])])
def net_Deliver.B3 : List Nat := [0, 0, 3, 7, 0, 0, 48, 127, 255, 511]
theorem net_Deliver.tab3 : rtab .any (opsOf Try.f12 3) = net_Deliver.T3 := by kernel_rfl
theorem net_Deliver.bits3 : waitsOk net_Deliver.T3.2 net_Deliver.B3 = true := by kernel_rfl
theorem V_away {e base n c g : Nat} {w : World} {ok : Nat → Prop} {ad : Addr} {xs : List S32} (h : Kd.V k32 e w base ok (.slice (some ad) n c) xs) (hok : ∀ k, ok k → k ≠ g) (hn : 0 < n) (hs : 0 < k32.sz) : some g ≠ (Value.slice (some ad) n c).ownBlock := by
  have h1 := hok _ (Kd.F_in (Kd.V_F h) rfl hn hs)
  intro he
  simp only [Value.ownBlock, Option.some.injEq] at he
  exact h1 he.symm
set_option maxHeartbeats 8000000 in
set_option maxRecDepth 100000 in
theorem net_Deliver.calls (P0_ : Nat → Prop) (A0 : Option Addr) (c0 : Nat) (l0 : List (S32)) (a1 : Int) (r1 : Int) (r2 : Int) (r3 : Int) (r4 : Int) (r5 : Int) (r6 : Int) (r7 : Int) (r8 : Int) (r9 : Int) (r10 : Int) (r11 : List (S49)) (r12 : ByteArray) (r13 : List (S32)) (r14 : Int) (w : World) (hs0 : Kd.V k32 32 w w.heap.size (fun k_ => P0_ k_) (.slice A0 l0.length c0) l0) (h : net_Deliver.f l0 a1 = some (r1, r2, r3, r4, r5, r6, r7, r8, r9, r10, r11, r12, r13, r14)) :
    Calls Try.prog 12 #[.slice A0 l0.length c0, .int .i64 a1] w fun e w' => ∃ v10_ v12_ : Value, e = .returned (.tuple #[.agg #[.int .i64 r1, .int .i64 r2, .int .i64 r3, .int .i64 r4, .int .i64 r5, .int .i64 r6, .int .u64 r7, .int .i64 r8, .int .i64 r9, .int .i64 r10, v10_, .string r12], v12_, .int .i64 r14]) ∧ Kd.V k49 49 w' w.heap.size (fun k_ => (P0_ k_ ∨ w.heap.size ≤ k_) ∧ some k_ ≠ (v12_ : Value).ownBlock) v10_ r11 ∧ Kd.N k32 32 w' w.heap.size (fun k_ => (P0_ k_ ∨ w.heap.size ≤ k_)) v12_ r13 ∧ Below w.heap.size w w' := by
  have hu32 := Try.underlying32
  have HO0 := Aside0.mk (show Kd.V k32 32 w w.heap.size (fun k_ => (P0_ k_ ∨ w.heap.size ≤ k_)) (.slice A0 l0.length c0) l0 from Kd.V_mono hs0 (fun k_ hk => .inl hk))
  have HB := Aside0.mk (Below.refl w.heap.size w)
  have H : ((net_has.f l0 a1).bind fun t150 => (if t150 = true then (if 0 ≤ a1 then (if a1 < (l0.length : Int) then ((net_without.f l0 a1).bind fun t152 => (some ((rd_T32 l0 a1).f0, (rd_T32 l0 a1).f1, (rd_T32 l0 a1).f2, (rd_T32 l0 a1).f3, (rd_T32 l0 a1).f4, (rd_T32 l0 a1).f5, (rd_T32 l0 a1).f6, (rd_T32 l0 a1).f7.f0, (rd_T32 l0 a1).f7.f1, (rd_T32 l0 a1).f7.f2, (rd_T32 l0 a1).f7.f3, (rd_T32 l0 a1).f8, t152, 0))) else (none)) else (none)) else (some (0, 0, 0, 0, 0, 0, 0, 0, 0, 0, ([] : List (S49)), (⟨#[]⟩ : ByteArray), ([] : List (S32)), 8)))) = some (r1, r2, r3, r4, r5, r6, r7, r8, r9, r10, r11, r12, r13, r14) := h
  clear h
  replace H := Option.bind_eq_some_iff.mp H
  obtain ⟨t150, A30, H⟩ := H
  replace H : (if t150 = true then (if 0 ≤ a1 then (if a1 < (l0.length : Int) then ((net_without.f l0 a1).bind fun t152 => (some ((rd_T32 l0 a1).f0, (rd_T32 l0 a1).f1, (rd_T32 l0 a1).f2, (rd_T32 l0 a1).f3, (rd_T32 l0 a1).f4, (rd_T32 l0 a1).f5, (rd_T32 l0 a1).f6, (rd_T32 l0 a1).f7.f0, (rd_T32 l0 a1).f7.f1, (rd_T32 l0 a1).f7.f2, (rd_T32 l0 a1).f7.f3, (rd_T32 l0 a1).f8, t152, 0))) else (none)) else (none)) else (some (0, 0, 0, 0, 0, 0, 0, 0, 0, 0, ([] : List (S49)), (⟨#[]⟩ : ByteArray), ([] : List (S32)), 8))) = some (r1, r2, r3, r4, r5, r6, r7, r8, r9, r10, r11, r12, r13, r14) := H
  have A3 := Aside0.mk A30
  clear A30
  by_cases c4 : t150 = true
  · subst c4
    have H1 : (if 0 ≤ a1 then (if a1 < (l0.length : Int) then ((net_without.f l0 a1).bind fun t152 => (some ((rd_T32 l0 a1).f0, (rd_T32 l0 a1).f1, (rd_T32 l0 a1).f2, (rd_T32 l0 a1).f3, (rd_T32 l0 a1).f4, (rd_T32 l0 a1).f5, (rd_T32 l0 a1).f6, (rd_T32 l0 a1).f7.f0, (rd_T32 l0 a1).f7.f1, (rd_T32 l0 a1).f7.f2, (rd_T32 l0 a1).f7.f3, (rd_T32 l0 a1).f8, t152, 0))) else (none)) else (none)) = some (r1, r2, r3, r4, r5, r6, r7, r8, r9, r10, r11, r12, r13, r14) := by rw [if_pos rfl] at H; exact H
    clear H
    have H := H1
    clear H1
    by_cases c5 : 0 ≤ a1
    · rw [if_pos c5] at H
      have c5b0 : decide (0 ≤ a1) = true := decide_eq_true c5
      clear c5
      by_cases c6 : a1 < (l0.length : Int)
      · rw [if_pos c6] at H
        have c6b0 : decide (a1 < (l0.length : Int)) = true := decide_eq_true c6
        clear c6
        replace H := Option.bind_eq_some_iff.mp H
        obtain ⟨t152, A70, H⟩ := H
        replace H : (some ((rd_T32 l0 a1).f0, (rd_T32 l0 a1).f1, (rd_T32 l0 a1).f2, (rd_T32 l0 a1).f3, (rd_T32 l0 a1).f4, (rd_T32 l0 a1).f5, (rd_T32 l0 a1).f6, (rd_T32 l0 a1).f7.f0, (rd_T32 l0 a1).f7.f1, (rd_T32 l0 a1).f7.f2, (rd_T32 l0 a1).f7.f3, (rd_T32 l0 a1).f8, t152, 0)) = some (r1, r2, r3, r4, r5, r6, r7, r8, r9, r10, r11, r12, r13, r14) := H
        have A7 := Aside0.mk A70
        clear A70
        simp only [Option.some.injEq, Prod.mk.injEq] at H
        obtain ⟨rfl, rfl, rfl, rfl, rfl, rfl, rfl, rfl, rfl, rfl, rfl, rfl, rfl, rfl⟩ := H
        go_enter Try.func12, Try.ntmps12
        try go_wp2_with (first | ((with_reducible refine gate_dst (N := 4) rfl ?_); refine box_event ?hg (N := 4) ?hd (cs := #[.int .i64 0, .int .i64 0, .int .i64 0, .int .i64 0, .int .i64 0, .int .i64 0, .int .u64 0, .int .i64 0, .int .i64 0, .int .i64 0, .slice none 0 0, .string (⟨#[]⟩ : ByteArray)]) (t := 32) ?hr ?_; (case hd => rfl); (case hg => rfl); (case hr => first | (go_simp; done) | (go_simp; rfl)); intro gb149 hg w8 hbox hb; have n0_ := Aside0.mk (Kd.V_below (Kd.V_elderB (by (with_reducible repeat (first | apply Kd.V_alloc | apply Kd.V_drewN | apply Kd.V_drew)); exact HO0.out) gb149 (Nat.le_of_eq hg.symm)) hb); have n1_ := Aside0.mk (below_step (by repeat (first | (with_reducible first | exact HB.out | apply below_alloc | apply pw_below_drewN | apply below_drew1) | exact HB.out)) hb); have n2_ := Aside0.mk (hbox); have n3_ := Aside0.mk ((by rw [hg]; exact (below_size (by repeat (first | (with_reducible first | exact HB.out | apply below_alloc | apply pw_below_drewN | apply below_drew1) | exact HB.out))) : w.heap.size ≤ gb149)); have n4_ := Aside0.mk ((by rw [hg]; exact (below_size (by repeat (first | (with_reducible first | exact HB.out | apply below_alloc | apply pw_below_drewN | apply below_drew1) | exact HB.out))) : w.heap.size ≤ gb149)); clear HO0; clear HB; have HO0 := n0_; have HB := n1_; have BK149 := n2_; have GW149 := n3_; have GE149 := n4_; clear n0_ n1_ n2_ n3_ n4_; clear hb hbox hg) | ((with_reducible refine gate_callee (f := 20) rfl ?_); refine goesL_ (some 9) rfl rfl Try.func20 (by kernel_rfl) rfl #[.slice A0 l0.length c0, .int .i64 a1] rfl (by (try simp only [List.map_toArray, List.map_cons, List.map_nil]); first | done | rfl | (simp only [List.length_drop, List.length_take]; rfl)) ?_; (with_reducible refine (net_has.calls _ _ l0 a1 true _ ?side1 ?side2 A3.out).mono ?_); (case side1 => repeat (first | exact (Kd.V_reads' HO0.out).2.2 | (with_reducible refine Kd.C_alloc ?_ _) | (with_reducible refine Kd.C_drewN ?_ _) | (with_reducible refine Kd.C_drew ?_))); (case side2 => exact (Kd.V_reads' HO0.out).2.1); rintro e w' ⟨rfl, ⟨nd, rfl⟩⟩; refine ⟨_, rfl, ?_⟩; (try (rw [drewN_self w8]; generalize hq_ : World.drewN w8 _ = w8; have n0_ : Aside0 (Kd.V k32 32 w8 w.heap.size (fun k_ => (P0_ k_ ∨ w.heap.size ≤ k_) ∧ k_ ≠ gb149) (.slice A0 l0.length c0) l0) := ⟨by rw [← hq_]; exact (by (with_reducible repeat (first | apply Kd.V_alloc | apply Kd.V_drewN | apply Kd.V_drew)); exact HO0.out)⟩; have n1_ : Aside0 (w8.heap[gb149]? = some (.cells #[.int .i64 0, .int .i64 0, .int .i64 0, .int .i64 0, .int .i64 0, .int .i64 0, .int .u64 0, .int .i64 0, .int .i64 0, .int .i64 0, .slice none 0 0, .string (⟨#[]⟩ : ByteArray)] 32 (0, 0))) := ⟨by rw [← hq_]; exact (by (with_reducible repeat (first | refine blk_drewN ?_ _ | refine blk_drew ?_ | refine blk_alloc ?_ _)); exact BK149.out)⟩; have n2_ : Aside0 (Below w.heap.size w w8) := ⟨by rw [← hq_]; exact (by repeat (first | (with_reducible first | exact HB.out | apply below_alloc | apply pw_below_drewN | apply below_drew1 | refine below_set ?_ GE149.out) | exact HB.out))⟩; clear HO0 BK149 HB hq_; have HO0 := n0_; have BK149 := n1_; have HB := n2_; clear n0_ n1_ n2_))))
        have n0_ := Aside0.mk (Kd.V_drew HO0.out)
        have n1_ := Aside0.mk (blk_drew BK149.out)
        have n2_ := Aside0.mk (below_drew1 HB.out)
        clear HO0
        clear BK149
        clear HB
        have HO0 := n0_
        have BK149 := n1_
        have HB := n2_
        clear n0_ n1_ n2_
        have p151 : 0 ≤ (a1 : Int) := of_decide_eq_true (by first | (with_reducible assumption) | assumption)
        have q151 : a1 < (l0.length : Int) := of_decide_eq_true (by first | (with_reducible assumption) | assumption)
        obtain ⟨ad151, A151_10, c151_10, e151, hx151_0, hx151_1, hx151_2, hx151_3, hx151_4, hx151_5, hx151_6, hx151_7, hx151_8, hx151_9, hx151_10, hx151_11, hl151_10, hi151_10⟩ := at_T32 (Kd.V_reads' HO0.out).2.2 a1 p151 q151
        cases e151
        obtain ⟨ce151, hce151, hMe151, hcc151⟩ := Kd.V_get HO0.out z32 a1 p151 (by first | exact q151 | exact of_decide_eq_true (by first | (with_reducible assumption) | assumption) | (have e_ := (Kd.V_reads' HO0.out).1; omega))
        obtain ⟨ua151_10, uc151_10, rfl, ul151_10, ge151_10⟩ := k32_openF hMe151
        have hv151_10 := hcc151 10 _ rfl
        rw [add_field _ _ 10 (by omega)] at hv151_10
        replace hv151_10 := Option.some.inj (hv151_10.symm.trans hx151_10)
        injection hv151_10 with hva_ hvn_ hvc_
        rw [hva_] at ge151_10
        rw [hvc_] at ul151_10
        have HL151_10 := Aside0.mk (show Kd.V k49 49 _ w.heap.size _ _ ((rd_T32 l0 a1).f7.f3) from Kd.V_mk ul151_10 ge151_10)
        clear hva_ hvn_ hvc_ ge151_10 ul151_10
        clear hcc151 hce151
        have HR151_10 := Aside0.mk hi151_10
        have HC151_10 := Aside0.mk hl151_10
        clear hi151_10 hl151_10
        replace p151 := eq_true p151
        replace q151 := eq_true q151
        have L0_ : Aside0 (0 < l0.length) := ⟨by have a_ := of_eq_true p151; have b_ := of_eq_true q151; omega⟩
        refine start_ (n := 10) (S := fun w' => w'.cell? (ad151.add ((a1).toNat * 12)) = some (.int .i64 ((rd_T32 l0 a1).f0)) ∧ w'.cell? ⟨(ad151.add ((a1).toNat * 12)).block, (ad151.add ((a1).toNat * 12)).off + 1, none⟩ = some (.int .i64 ((rd_T32 l0 a1).f1)) ∧ w'.cell? ⟨(ad151.add ((a1).toNat * 12)).block, (ad151.add ((a1).toNat * 12)).off + 2, none⟩ = some (.int .i64 ((rd_T32 l0 a1).f2)) ∧ w'.cell? ⟨(ad151.add ((a1).toNat * 12)).block, (ad151.add ((a1).toNat * 12)).off + 3, none⟩ = some (.int .i64 ((rd_T32 l0 a1).f3)) ∧ w'.cell? ⟨(ad151.add ((a1).toNat * 12)).block, (ad151.add ((a1).toNat * 12)).off + 4, none⟩ = some (.int .i64 ((rd_T32 l0 a1).f4)) ∧ w'.cell? ⟨(ad151.add ((a1).toNat * 12)).block, (ad151.add ((a1).toNat * 12)).off + 5, none⟩ = some (.int .i64 ((rd_T32 l0 a1).f5)) ∧ w'.cell? ⟨(ad151.add ((a1).toNat * 12)).block, (ad151.add ((a1).toNat * 12)).off + 6, none⟩ = some (.int .u64 ((rd_T32 l0 a1).f6)) ∧ w'.cell? ⟨(ad151.add ((a1).toNat * 12)).block, (ad151.add ((a1).toNat * 12)).off + 7, none⟩ = some (.int .i64 ((rd_T32 l0 a1).f7.f0)) ∧ w'.cell? ⟨(ad151.add ((a1).toNat * 12)).block, (ad151.add ((a1).toNat * 12)).off + 8, none⟩ = some (.int .i64 ((rd_T32 l0 a1).f7.f1)) ∧ w'.cell? ⟨(ad151.add ((a1).toNat * 12)).block, (ad151.add ((a1).toNat * 12)).off + 9, none⟩ = some (.int .i64 ((rd_T32 l0 a1).f7.f2)) ∧ w'.cell? ⟨(ad151.add ((a1).toNat * 12)).block, (ad151.add ((a1).toNat * 12)).off + 10, none⟩ = some (.slice A151_10 ((rd_T32 l0 a1).f7.f3).length c151_10) ∧ w'.cell? ⟨(ad151.add ((a1).toNat * 12)).block, (ad151.add ((a1).toNat * 12)).off + 11, none⟩ = some (.string ((rd_T32 l0 a1).f8))) (ds := []) #[false, false, false, false, false, false, false, false, false, false] (by kernel_rfl) rfl rfl ⟨hx151_0, hx151_1, hx151_2, hx151_3, hx151_4, hx151_5, hx151_6, hx151_7, hx151_8, hx151_9, hx151_10, hx151_11⟩ (fun hHeld => ?_); refine with_tabW net_Deliver.tab3 net_Deliver.bits3 (fun HT_ HW_ => ?_)
        generalize w8.drew = w9 at HO0 BK149 HB HL151_10 HR151_10 hx151_0 hx151_1 hx151_10 hx151_11 hx151_2 hx151_3 hx151_4 hx151_5 hx151_6 hx151_7 hx151_8 hx151_9 hHeld ⊢
        refine pure_ (i := 0) (N := some 12) (v := ?_) (a' := ?_) #[true, false, false, false, false, false, false, false, false, false] rfl rfl (any_of HT_.out (by kernel_rfl)) (fun _ _ _ h => h) (Or.inl ⟨by rfl, ?_⟩) ?_ ?_
        rotate_left
        · intro w'
          go_simp
          with_reducible rfl
        rotate_left
        · simp only [Act.put, List.setIfInBounds_toArray, List.set_cons_zero, List.set_cons_succ, i64_w, i32_w]
          rfl
        refine pure_ (i := 1) (N := some 13) (v := ?_) (a' := ?_) #[true, true, false, false, false, false, false, false, false, false] rfl rfl (any_of HT_.out (by kernel_rfl)) (fun _ _ _ h => h) (Or.inl ⟨by rfl, ?_⟩) ?_ ?_
        rotate_left
        · intro w'
          go_simp
          with_reducible rfl
        rotate_left
        · simp only [Act.put, List.setIfInBounds_toArray, List.set_cons_zero, List.set_cons_succ, i64_w, i32_w]
          rfl
        refine pure_ (i := 2) (N := some 14) (v := ?_) (a' := ?_) #[true, true, true, false, false, false, false, false, false, false] rfl rfl (any_of HT_.out (by kernel_rfl)) (fun _ _ _ h => h) (Or.inl ⟨by rfl, ?_⟩) ?_ ?_
        rotate_left
        · intro w'
          go_simp
          with_reducible rfl
        rotate_left
        · simp only [Act.put, List.setIfInBounds_toArray, List.set_cons_zero, List.set_cons_succ, i64_w, i32_w]
          rfl
        refine pure_ (i := 4) (N := some 16) (v := ?_) (a' := ?_) #[true, true, true, false, true, false, false, false, false, false] rfl rfl (any_of HT_.out (by kernel_rfl)) (fun _ _ _ h => h) (Or.inl ⟨by rfl, ?_⟩) ?_ ?_
        rotate_left
        · intro w'
          go_simp
          with_reducible rfl
        rotate_left
        · simp only [Act.put, List.setIfInBounds_toArray, List.set_cons_zero, List.set_cons_succ, i64_w, i32_w]
          rfl
        refine pure_ (i := 5) (N := some 17) (v := ?_) (a' := ?_) #[true, true, true, false, true, true, false, false, false, false] rfl rfl (any_of HT_.out (by kernel_rfl)) (fun _ _ _ h => h) (Or.inl ⟨by rfl, ?_⟩) ?_ ?_
        rotate_left
        · intro w'
          go_simp
          with_reducible rfl
        rotate_left
        · simp only [Act.put, List.setIfInBounds_toArray, List.set_cons_zero, List.set_cons_succ, i64_w, i32_w]
          rfl
        refine take_ (i := 3) (N := some 15) (v := ?_) (a' := ?_) #[true, true, true, true, true, true, false, false, false, false] rfl rfl (take_ofW HT_.out HW_.out (by kernel_rfl)) (fun _ _ _ h => h) (Or.inl ⟨by rfl, ?_⟩) hHeld ?_ ?_
        rotate_left
        · rintro w' ⟨s0, s1, s2, s3, s4, s5, s6, s7, s8, s9, s10, s11⟩
          go_simp
          with_reducible rfl
        rotate_left
        · simp only [Act.put, List.setIfInBounds_toArray, List.set_cons_zero, List.set_cons_succ, i64_w, i32_w]
          rfl
        refine one_ (i := 6) (N := some 18) #[true, true, true, true, true, true, true, false, false, false] rfl rfl (one_of HT_.out (by kernel_rfl)) (by decide) (fun K hK => ?_)
        refine goes_ Try.func21 (by kernel_rfl) rfl #[.slice (some ad151) l0.length c0, .int .i64 a1] (by rfl) rfl rfl (by (try simp only [List.map_toArray, List.map_cons, List.map_nil]); first | done | rfl | (simp only [List.length_drop, List.length_take]; rfl)) ?_
        with_reducible refine (net_without.calls (fun k_ => ((P0_ k_ ∨ w.heap.size ≤ k_) ∧ k_ ≠ gb149)) _ _ l0 a1 t152 _ ?side1 A7.out).mono ?_
        (case side1 => exact HO0.out)
        rintro e w10 ⟨v153, rfl, ho0, hb⟩
        have HS0_ := (hb.cell (World.block_lt_of_cell? _ _ (hHeld.1))).trans (hHeld.1)
        have HS1_ := (hb.cell (World.block_lt_of_cell? _ _ (hHeld.2.1))).trans (hHeld.2.1)
        have HS2_ := (hb.cell (World.block_lt_of_cell? _ _ (hHeld.2.2.1))).trans (hHeld.2.2.1)
        have HS3_ := (hb.cell (World.block_lt_of_cell? _ _ (hHeld.2.2.2.1))).trans (hHeld.2.2.2.1)
        have HS4_ := (hb.cell (World.block_lt_of_cell? _ _ (hHeld.2.2.2.2.1))).trans (hHeld.2.2.2.2.1)
        have HS5_ := (hb.cell (World.block_lt_of_cell? _ _ (hHeld.2.2.2.2.2.1))).trans (hHeld.2.2.2.2.2.1)
        have HS6_ := (hb.cell (World.block_lt_of_cell? _ _ (hHeld.2.2.2.2.2.2.1))).trans (hHeld.2.2.2.2.2.2.1)
        have HS7_ := (hb.cell (World.block_lt_of_cell? _ _ (hHeld.2.2.2.2.2.2.2.1))).trans (hHeld.2.2.2.2.2.2.2.1)
        have HS8_ := (hb.cell (World.block_lt_of_cell? _ _ (hHeld.2.2.2.2.2.2.2.2.1))).trans (hHeld.2.2.2.2.2.2.2.2.1)
        have HS9_ := (hb.cell (World.block_lt_of_cell? _ _ (hHeld.2.2.2.2.2.2.2.2.2.1))).trans (hHeld.2.2.2.2.2.2.2.2.2.1)
        have HS10_ := (hb.cell (World.block_lt_of_cell? _ _ (hHeld.2.2.2.2.2.2.2.2.2.2.1))).trans (hHeld.2.2.2.2.2.2.2.2.2.2.1)
        have HS11_ := (hb.cell (World.block_lt_of_cell? _ _ (hHeld.2.2.2.2.2.2.2.2.2.2.2))).trans (hHeld.2.2.2.2.2.2.2.2.2.2.2)
        refine ⟨_, rfl, ?_⟩
        have n0_ := Aside0.mk (Kd.V_elder' (by (with_reducible repeat (first | apply Kd.V_alloc | apply Kd.V_drewN | apply Kd.V_drew)); exact HO0.out) (Kd.N_base ho0) hb)
        have n1_ := Aside0.mk (Kd.V_elder' (by (with_reducible repeat (first | apply Kd.V_alloc | apply Kd.V_drewN | apply Kd.V_drew)); exact HL151_10.out) (Kd.N_base ho0) hb)
        have n2_ := Aside0.mk (Kd.N_lower (Kd.N_mono (ok' := fun k_ => (P0_ k_ ∨ w.heap.size ≤ k_) ∧ k_ ≠ gb149) ho0 (fun k_ hk_ => ⟨Or.elim hk_ (fun hs_ => hs_.1) (fun hn_ => (.inr (Nat.le_trans (below_size (by repeat (first | (with_reducible first | exact HB.out | apply below_alloc | apply pw_below_drewN | apply below_drew1 | refine below_set ?_ GE149.out) | exact HB.out))) hn_))), Or.elim hk_ (fun hs_ => hs_.2) (fun hn_ => (Kd.freshB (g := gb149) (o := .cells #[.int .i64 0, .int .i64 0, .int .i64 0, .int .i64 0, .int .i64 0, .int .i64 0, .int .u64 0, .int .i64 0, .int .i64 0, .int .i64 0, .slice none 0 0, .string (⟨#[]⟩ : ByteArray)] 32 (0, 0)) (by (with_reducible repeat (first | refine blk_drewN ?_ _ | refine blk_drew ?_ | refine blk_alloc ?_ _)); exact BK149.out) k_ hn_))⟩)) (below_size (by repeat (first | (with_reducible first | exact HB.out | apply below_alloc | apply pw_below_drewN | apply below_drew1 | refine below_set ?_ GE149.out) | exact HB.out))))
        have n3_ := Aside0.mk (blk_below (g := gb149) (o := .cells #[.int .i64 0, .int .i64 0, .int .i64 0, .int .i64 0, .int .i64 0, .int .i64 0, .int .u64 0, .int .i64 0, .int .i64 0, .int .i64 0, .slice none 0 0, .string (⟨#[]⟩ : ByteArray)] 32 (0, 0)) (by (with_reducible repeat (first | refine blk_drewN ?_ _ | refine blk_drew ?_ | refine blk_alloc ?_ _)); exact BK149.out) hb)
        have n4_ := Aside0.mk (Kd.C_below (by repeat (first | (with_reducible exact HR151_10.out) | (with_reducible refine Kd.C_alloc ?_ _) | (with_reducible refine Kd.C_drewN ?_ _) | (with_reducible refine Kd.C_drew ?_) | exact HR151_10.out)) hb)
        have n5_ := Aside0.mk (below_step (by repeat (first | (with_reducible first | exact HB.out | apply below_alloc | apply pw_below_drewN | apply below_drew1 | refine below_set ?_ GE149.out) | exact HB.out)) hb)
        clear HO0
        clear HL151_10
        clear BK149
        clear HR151_10
        clear HB
        have HO0 := n0_
        have HL151_10 := n1_
        have HO154 := n2_
        have BK149 := n3_
        have HR151_10 := n4_
        have HB := n5_
        clear n0_ n1_ n2_ n3_ n4_ n5_
        (try clear hb)
        (try clear hb2)
        (try clear hk)
        (try clear hi)
        (try clear ho0)
        refine hK.out _ _ ⟨HS0_, HS1_, HS2_, HS3_, HS4_, HS5_, HS6_, HS7_, HS8_, HS9_, HS10_, HS11_⟩ (fun hHeld => ?_)
        clear hK K
        refine norm_ (a' := ?_) ?_ ?_
        rotate_left
        · show Act.put _ (some 18) _ = _
          simp only [Act.put, List.setIfInBounds_toArray, List.set_cons_zero, List.set_cons_succ, i64_w, i32_w]
          rfl
        refine one_ (i := 7) (N := none) #[true, true, true, true, true, true, true, true, false, false] rfl rfl (one_of HT_.out (by kernel_rfl)) (by decide) (fun K hK => ?_)
        have hs11 : w10.cell? ⟨gb149, 0, none⟩ = some (.int .i64 0) := (blk_cell BK149.out 0).trans rfl
        have hfs11 := blk_frozen BK149.out 0
        have hs12 : w10.cell? ⟨gb149, 1, none⟩ = some (.int .i64 0) := (blk_cell BK149.out 1).trans rfl
        have hfs12 := blk_frozen BK149.out 1
        have hs13 : w10.cell? ⟨gb149, 2, none⟩ = some (.int .i64 0) := (blk_cell BK149.out 2).trans rfl
        have hfs13 := blk_frozen BK149.out 2
        have hs14 : w10.cell? ⟨gb149, 3, none⟩ = some (.int .i64 0) := (blk_cell BK149.out 3).trans rfl
        have hfs14 := blk_frozen BK149.out 3
        have hs15 : w10.cell? ⟨gb149, 4, none⟩ = some (.int .i64 0) := (blk_cell BK149.out 4).trans rfl
        have hfs15 := blk_frozen BK149.out 4
        have hs16 : w10.cell? ⟨gb149, 5, none⟩ = some (.int .i64 0) := (blk_cell BK149.out 5).trans rfl
        have hfs16 := blk_frozen BK149.out 5
        have hs17 : w10.cell? ⟨gb149, 6, none⟩ = some (.int .u64 0) := (blk_cell BK149.out 6).trans rfl
        have hfs17 := blk_frozen BK149.out 6
        have hs18 : w10.cell? ⟨gb149, 7, none⟩ = some (.int .i64 0) := (blk_cell BK149.out 7).trans rfl
        have hfs18 := blk_frozen BK149.out 7
        have hs19 : w10.cell? ⟨gb149, 8, none⟩ = some (.int .i64 0) := (blk_cell BK149.out 8).trans rfl
        have hfs19 := blk_frozen BK149.out 8
        have hs20 : w10.cell? ⟨gb149, 9, none⟩ = some (.int .i64 0) := (blk_cell BK149.out 9).trans rfl
        have hfs20 := blk_frozen BK149.out 9
        have hs21 : w10.cell? ⟨gb149, 10, none⟩ = some (.slice none 0 0) := (blk_cell BK149.out 10).trans rfl
        have hfs21 := blk_frozen BK149.out 10
        have hs22 : w10.cell? ⟨gb149, 11, none⟩ = some (.string (⟨#[]⟩ : ByteArray)) := (blk_cell BK149.out 11).trans rfl
        have hfs22 := blk_frozen BK149.out 11
        refine skip_ (w1 := ?_) (by rfl) rfl ?_ ?_
        rotate_left
        · go_simp
          rfl
        refine hK.out _ _ ⟨((cell_far (p := ⟨gb149, _, none⟩) (by first | exact Kd.own_blk (V_away HO0.out (fun _ hk => hk.1.2) L0_.out (by decide)) | (rw [add_block]; exact Kd.own_blk (V_away HO0.out (fun _ hk => hk.1.2) L0_.out (by decide))) | (show (Addr.add _ _).block ≠ _; rw [add_block]; exact Kd.own_blk (V_away HO0.out (fun _ hk => hk.1.2) L0_.out (by decide))) | (dsimp only; exact Kd.own_blk (V_away HO0.out (fun _ hk => hk.1.2) L0_.out (by decide)))) _).trans (((cell_far (p := ⟨gb149, _, none⟩) (by first | exact Kd.own_blk (V_away HO0.out (fun _ hk => hk.1.2) L0_.out (by decide)) | (rw [add_block]; exact Kd.own_blk (V_away HO0.out (fun _ hk => hk.1.2) L0_.out (by decide))) | (show (Addr.add _ _).block ≠ _; rw [add_block]; exact Kd.own_blk (V_away HO0.out (fun _ hk => hk.1.2) L0_.out (by decide))) | (dsimp only; exact Kd.own_blk (V_away HO0.out (fun _ hk => hk.1.2) L0_.out (by decide)))) _).trans (((cell_far (p := ⟨gb149, _, none⟩) (by first | exact Kd.own_blk (V_away HO0.out (fun _ hk => hk.1.2) L0_.out (by decide)) | (rw [add_block]; exact Kd.own_blk (V_away HO0.out (fun _ hk => hk.1.2) L0_.out (by decide))) | (show (Addr.add _ _).block ≠ _; rw [add_block]; exact Kd.own_blk (V_away HO0.out (fun _ hk => hk.1.2) L0_.out (by decide))) | (dsimp only; exact Kd.own_blk (V_away HO0.out (fun _ hk => hk.1.2) L0_.out (by decide)))) _).trans (((cell_far (p := ⟨gb149, _, none⟩) (by first | exact Kd.own_blk (V_away HO0.out (fun _ hk => hk.1.2) L0_.out (by decide)) | (rw [add_block]; exact Kd.own_blk (V_away HO0.out (fun _ hk => hk.1.2) L0_.out (by decide))) | (show (Addr.add _ _).block ≠ _; rw [add_block]; exact Kd.own_blk (V_away HO0.out (fun _ hk => hk.1.2) L0_.out (by decide))) | (dsimp only; exact Kd.own_blk (V_away HO0.out (fun _ hk => hk.1.2) L0_.out (by decide)))) _).trans (((cell_far (p := ⟨gb149, _, none⟩) (by first | exact Kd.own_blk (V_away HO0.out (fun _ hk => hk.1.2) L0_.out (by decide)) | (rw [add_block]; exact Kd.own_blk (V_away HO0.out (fun _ hk => hk.1.2) L0_.out (by decide))) | (show (Addr.add _ _).block ≠ _; rw [add_block]; exact Kd.own_blk (V_away HO0.out (fun _ hk => hk.1.2) L0_.out (by decide))) | (dsimp only; exact Kd.own_blk (V_away HO0.out (fun _ hk => hk.1.2) L0_.out (by decide)))) _).trans (((cell_far (p := ⟨gb149, _, none⟩) (by first | exact Kd.own_blk (V_away HO0.out (fun _ hk => hk.1.2) L0_.out (by decide)) | (rw [add_block]; exact Kd.own_blk (V_away HO0.out (fun _ hk => hk.1.2) L0_.out (by decide))) | (show (Addr.add _ _).block ≠ _; rw [add_block]; exact Kd.own_blk (V_away HO0.out (fun _ hk => hk.1.2) L0_.out (by decide))) | (dsimp only; exact Kd.own_blk (V_away HO0.out (fun _ hk => hk.1.2) L0_.out (by decide)))) _).trans (((cell_far (p := ⟨gb149, _, none⟩) (by first | exact Kd.own_blk (V_away HO0.out (fun _ hk => hk.1.2) L0_.out (by decide)) | (rw [add_block]; exact Kd.own_blk (V_away HO0.out (fun _ hk => hk.1.2) L0_.out (by decide))) | (show (Addr.add _ _).block ≠ _; rw [add_block]; exact Kd.own_blk (V_away HO0.out (fun _ hk => hk.1.2) L0_.out (by decide))) | (dsimp only; exact Kd.own_blk (V_away HO0.out (fun _ hk => hk.1.2) L0_.out (by decide)))) _).trans (((cell_far (p := ⟨gb149, _, none⟩) (by first | exact Kd.own_blk (V_away HO0.out (fun _ hk => hk.1.2) L0_.out (by decide)) | (rw [add_block]; exact Kd.own_blk (V_away HO0.out (fun _ hk => hk.1.2) L0_.out (by decide))) | (show (Addr.add _ _).block ≠ _; rw [add_block]; exact Kd.own_blk (V_away HO0.out (fun _ hk => hk.1.2) L0_.out (by decide))) | (dsimp only; exact Kd.own_blk (V_away HO0.out (fun _ hk => hk.1.2) L0_.out (by decide)))) _).trans (((cell_far (p := ⟨gb149, _, none⟩) (by first | exact Kd.own_blk (V_away HO0.out (fun _ hk => hk.1.2) L0_.out (by decide)) | (rw [add_block]; exact Kd.own_blk (V_away HO0.out (fun _ hk => hk.1.2) L0_.out (by decide))) | (show (Addr.add _ _).block ≠ _; rw [add_block]; exact Kd.own_blk (V_away HO0.out (fun _ hk => hk.1.2) L0_.out (by decide))) | (dsimp only; exact Kd.own_blk (V_away HO0.out (fun _ hk => hk.1.2) L0_.out (by decide)))) _).trans (((cell_far (p := ⟨gb149, _, none⟩) (by first | exact Kd.own_blk (V_away HO0.out (fun _ hk => hk.1.2) L0_.out (by decide)) | (rw [add_block]; exact Kd.own_blk (V_away HO0.out (fun _ hk => hk.1.2) L0_.out (by decide))) | (show (Addr.add _ _).block ≠ _; rw [add_block]; exact Kd.own_blk (V_away HO0.out (fun _ hk => hk.1.2) L0_.out (by decide))) | (dsimp only; exact Kd.own_blk (V_away HO0.out (fun _ hk => hk.1.2) L0_.out (by decide)))) _).trans (((cell_far (p := ⟨gb149, _, none⟩) (by first | exact Kd.own_blk (V_away HO0.out (fun _ hk => hk.1.2) L0_.out (by decide)) | (rw [add_block]; exact Kd.own_blk (V_away HO0.out (fun _ hk => hk.1.2) L0_.out (by decide))) | (show (Addr.add _ _).block ≠ _; rw [add_block]; exact Kd.own_blk (V_away HO0.out (fun _ hk => hk.1.2) L0_.out (by decide))) | (dsimp only; exact Kd.own_blk (V_away HO0.out (fun _ hk => hk.1.2) L0_.out (by decide)))) _).trans (((cell_far (p := ⟨gb149, _, none⟩) (by first | exact Kd.own_blk (V_away HO0.out (fun _ hk => hk.1.2) L0_.out (by decide)) | (rw [add_block]; exact Kd.own_blk (V_away HO0.out (fun _ hk => hk.1.2) L0_.out (by decide))) | (show (Addr.add _ _).block ≠ _; rw [add_block]; exact Kd.own_blk (V_away HO0.out (fun _ hk => hk.1.2) L0_.out (by decide))) | (dsimp only; exact Kd.own_blk (V_away HO0.out (fun _ hk => hk.1.2) L0_.out (by decide)))) _).trans (hHeld.1)))))))))))))))))))))))), ((cell_far (p := ⟨gb149, _, none⟩) (by first | exact Kd.own_blk (V_away HO0.out (fun _ hk => hk.1.2) L0_.out (by decide)) | (rw [add_block]; exact Kd.own_blk (V_away HO0.out (fun _ hk => hk.1.2) L0_.out (by decide))) | (show (Addr.add _ _).block ≠ _; rw [add_block]; exact Kd.own_blk (V_away HO0.out (fun _ hk => hk.1.2) L0_.out (by decide))) | (dsimp only; exact Kd.own_blk (V_away HO0.out (fun _ hk => hk.1.2) L0_.out (by decide)))) _).trans (((cell_far (p := ⟨gb149, _, none⟩) (by first | exact Kd.own_blk (V_away HO0.out (fun _ hk => hk.1.2) L0_.out (by decide)) | (rw [add_block]; exact Kd.own_blk (V_away HO0.out (fun _ hk => hk.1.2) L0_.out (by decide))) | (show (Addr.add _ _).block ≠ _; rw [add_block]; exact Kd.own_blk (V_away HO0.out (fun _ hk => hk.1.2) L0_.out (by decide))) | (dsimp only; exact Kd.own_blk (V_away HO0.out (fun _ hk => hk.1.2) L0_.out (by decide)))) _).trans (((cell_far (p := ⟨gb149, _, none⟩) (by first | exact Kd.own_blk (V_away HO0.out (fun _ hk => hk.1.2) L0_.out (by decide)) | (rw [add_block]; exact Kd.own_blk (V_away HO0.out (fun _ hk => hk.1.2) L0_.out (by decide))) | (show (Addr.add _ _).block ≠ _; rw [add_block]; exact Kd.own_blk (V_away HO0.out (fun _ hk => hk.1.2) L0_.out (by decide))) | (dsimp only; exact Kd.own_blk (V_away HO0.out (fun _ hk => hk.1.2) L0_.out (by decide)))) _).trans (((cell_far (p := ⟨gb149, _, none⟩) (by first | exact Kd.own_blk (V_away HO0.out (fun _ hk => hk.1.2) L0_.out (by decide)) | (rw [add_block]; exact Kd.own_blk (V_away HO0.out (fun _ hk => hk.1.2) L0_.out (by decide))) | (show (Addr.add _ _).block ≠ _; rw [add_block]; exact Kd.own_blk (V_away HO0.out (fun _ hk => hk.1.2) L0_.out (by decide))) | (dsimp only; exact Kd.own_blk (V_away HO0.out (fun _ hk => hk.1.2) L0_.out (by decide)))) _).trans (((cell_far (p := ⟨gb149, _, none⟩) (by first | exact Kd.own_blk (V_away HO0.out (fun _ hk => hk.1.2) L0_.out (by decide)) | (rw [add_block]; exact Kd.own_blk (V_away HO0.out (fun _ hk => hk.1.2) L0_.out (by decide))) | (show (Addr.add _ _).block ≠ _; rw [add_block]; exact Kd.own_blk (V_away HO0.out (fun _ hk => hk.1.2) L0_.out (by decide))) | (dsimp only; exact Kd.own_blk (V_away HO0.out (fun _ hk => hk.1.2) L0_.out (by decide)))) _).trans (((cell_far (p := ⟨gb149, _, none⟩) (by first | exact Kd.own_blk (V_away HO0.out (fun _ hk => hk.1.2) L0_.out (by decide)) | (rw [add_block]; exact Kd.own_blk (V_away HO0.out (fun _ hk => hk.1.2) L0_.out (by decide))) | (show (Addr.add _ _).block ≠ _; rw [add_block]; exact Kd.own_blk (V_away HO0.out (fun _ hk => hk.1.2) L0_.out (by decide))) | (dsimp only; exact Kd.own_blk (V_away HO0.out (fun _ hk => hk.1.2) L0_.out (by decide)))) _).trans (((cell_far (p := ⟨gb149, _, none⟩) (by first | exact Kd.own_blk (V_away HO0.out (fun _ hk => hk.1.2) L0_.out (by decide)) | (rw [add_block]; exact Kd.own_blk (V_away HO0.out (fun _ hk => hk.1.2) L0_.out (by decide))) | (show (Addr.add _ _).block ≠ _; rw [add_block]; exact Kd.own_blk (V_away HO0.out (fun _ hk => hk.1.2) L0_.out (by decide))) | (dsimp only; exact Kd.own_blk (V_away HO0.out (fun _ hk => hk.1.2) L0_.out (by decide)))) _).trans (((cell_far (p := ⟨gb149, _, none⟩) (by first | exact Kd.own_blk (V_away HO0.out (fun _ hk => hk.1.2) L0_.out (by decide)) | (rw [add_block]; exact Kd.own_blk (V_away HO0.out (fun _ hk => hk.1.2) L0_.out (by decide))) | (show (Addr.add _ _).block ≠ _; rw [add_block]; exact Kd.own_blk (V_away HO0.out (fun _ hk => hk.1.2) L0_.out (by decide))) | (dsimp only; exact Kd.own_blk (V_away HO0.out (fun _ hk => hk.1.2) L0_.out (by decide)))) _).trans (((cell_far (p := ⟨gb149, _, none⟩) (by first | exact Kd.own_blk (V_away HO0.out (fun _ hk => hk.1.2) L0_.out (by decide)) | (rw [add_block]; exact Kd.own_blk (V_away HO0.out (fun _ hk => hk.1.2) L0_.out (by decide))) | (show (Addr.add _ _).block ≠ _; rw [add_block]; exact Kd.own_blk (V_away HO0.out (fun _ hk => hk.1.2) L0_.out (by decide))) | (dsimp only; exact Kd.own_blk (V_away HO0.out (fun _ hk => hk.1.2) L0_.out (by decide)))) _).trans (((cell_far (p := ⟨gb149, _, none⟩) (by first | exact Kd.own_blk (V_away HO0.out (fun _ hk => hk.1.2) L0_.out (by decide)) | (rw [add_block]; exact Kd.own_blk (V_away HO0.out (fun _ hk => hk.1.2) L0_.out (by decide))) | (show (Addr.add _ _).block ≠ _; rw [add_block]; exact Kd.own_blk (V_away HO0.out (fun _ hk => hk.1.2) L0_.out (by decide))) | (dsimp only; exact Kd.own_blk (V_away HO0.out (fun _ hk => hk.1.2) L0_.out (by decide)))) _).trans (((cell_far (p := ⟨gb149, _, none⟩) (by first | exact Kd.own_blk (V_away HO0.out (fun _ hk => hk.1.2) L0_.out (by decide)) | (rw [add_block]; exact Kd.own_blk (V_away HO0.out (fun _ hk => hk.1.2) L0_.out (by decide))) | (show (Addr.add _ _).block ≠ _; rw [add_block]; exact Kd.own_blk (V_away HO0.out (fun _ hk => hk.1.2) L0_.out (by decide))) | (dsimp only; exact Kd.own_blk (V_away HO0.out (fun _ hk => hk.1.2) L0_.out (by decide)))) _).trans (((cell_far (p := ⟨gb149, _, none⟩) (by first | exact Kd.own_blk (V_away HO0.out (fun _ hk => hk.1.2) L0_.out (by decide)) | (rw [add_block]; exact Kd.own_blk (V_away HO0.out (fun _ hk => hk.1.2) L0_.out (by decide))) | (show (Addr.add _ _).block ≠ _; rw [add_block]; exact Kd.own_blk (V_away HO0.out (fun _ hk => hk.1.2) L0_.out (by decide))) | (dsimp only; exact Kd.own_blk (V_away HO0.out (fun _ hk => hk.1.2) L0_.out (by decide)))) _).trans (hHeld.2.1)))))))))))))))))))))))), ((cell_far (p := ⟨gb149, _, none⟩) (by first | exact Kd.own_blk (V_away HO0.out (fun _ hk => hk.1.2) L0_.out (by decide)) | (rw [add_block]; exact Kd.own_blk (V_away HO0.out (fun _ hk => hk.1.2) L0_.out (by decide))) | (show (Addr.add _ _).block ≠ _; rw [add_block]; exact Kd.own_blk (V_away HO0.out (fun _ hk => hk.1.2) L0_.out (by decide))) | (dsimp only; exact Kd.own_blk (V_away HO0.out (fun _ hk => hk.1.2) L0_.out (by decide)))) _).trans (((cell_far (p := ⟨gb149, _, none⟩) (by first | exact Kd.own_blk (V_away HO0.out (fun _ hk => hk.1.2) L0_.out (by decide)) | (rw [add_block]; exact Kd.own_blk (V_away HO0.out (fun _ hk => hk.1.2) L0_.out (by decide))) | (show (Addr.add _ _).block ≠ _; rw [add_block]; exact Kd.own_blk (V_away HO0.out (fun _ hk => hk.1.2) L0_.out (by decide))) | (dsimp only; exact Kd.own_blk (V_away HO0.out (fun _ hk => hk.1.2) L0_.out (by decide)))) _).trans (((cell_far (p := ⟨gb149, _, none⟩) (by first | exact Kd.own_blk (V_away HO0.out (fun _ hk => hk.1.2) L0_.out (by decide)) | (rw [add_block]; exact Kd.own_blk (V_away HO0.out (fun _ hk => hk.1.2) L0_.out (by decide))) | (show (Addr.add _ _).block ≠ _; rw [add_block]; exact Kd.own_blk (V_away HO0.out (fun _ hk => hk.1.2) L0_.out (by decide))) | (dsimp only; exact Kd.own_blk (V_away HO0.out (fun _ hk => hk.1.2) L0_.out (by decide)))) _).trans (((cell_far (p := ⟨gb149, _, none⟩) (by first | exact Kd.own_blk (V_away HO0.out (fun _ hk => hk.1.2) L0_.out (by decide)) | (rw [add_block]; exact Kd.own_blk (V_away HO0.out (fun _ hk => hk.1.2) L0_.out (by decide))) | (show (Addr.add _ _).block ≠ _; rw [add_block]; exact Kd.own_blk (V_away HO0.out (fun _ hk => hk.1.2) L0_.out (by decide))) | (dsimp only; exact Kd.own_blk (V_away HO0.out (fun _ hk => hk.1.2) L0_.out (by decide)))) _).trans (((cell_far (p := ⟨gb149, _, none⟩) (by first | exact Kd.own_blk (V_away HO0.out (fun _ hk => hk.1.2) L0_.out (by decide)) | (rw [add_block]; exact Kd.own_blk (V_away HO0.out (fun _ hk => hk.1.2) L0_.out (by decide))) | (show (Addr.add _ _).block ≠ _; rw [add_block]; exact Kd.own_blk (V_away HO0.out (fun _ hk => hk.1.2) L0_.out (by decide))) | (dsimp only; exact Kd.own_blk (V_away HO0.out (fun _ hk => hk.1.2) L0_.out (by decide)))) _).trans (((cell_far (p := ⟨gb149, _, none⟩) (by first | exact Kd.own_blk (V_away HO0.out (fun _ hk => hk.1.2) L0_.out (by decide)) | (rw [add_block]; exact Kd.own_blk (V_away HO0.out (fun _ hk => hk.1.2) L0_.out (by decide))) | (show (Addr.add _ _).block ≠ _; rw [add_block]; exact Kd.own_blk (V_away HO0.out (fun _ hk => hk.1.2) L0_.out (by decide))) | (dsimp only; exact Kd.own_blk (V_away HO0.out (fun _ hk => hk.1.2) L0_.out (by decide)))) _).trans (((cell_far (p := ⟨gb149, _, none⟩) (by first | exact Kd.own_blk (V_away HO0.out (fun _ hk => hk.1.2) L0_.out (by decide)) | (rw [add_block]; exact Kd.own_blk (V_away HO0.out (fun _ hk => hk.1.2) L0_.out (by decide))) | (show (Addr.add _ _).block ≠ _; rw [add_block]; exact Kd.own_blk (V_away HO0.out (fun _ hk => hk.1.2) L0_.out (by decide))) | (dsimp only; exact Kd.own_blk (V_away HO0.out (fun _ hk => hk.1.2) L0_.out (by decide)))) _).trans (((cell_far (p := ⟨gb149, _, none⟩) (by first | exact Kd.own_blk (V_away HO0.out (fun _ hk => hk.1.2) L0_.out (by decide)) | (rw [add_block]; exact Kd.own_blk (V_away HO0.out (fun _ hk => hk.1.2) L0_.out (by decide))) | (show (Addr.add _ _).block ≠ _; rw [add_block]; exact Kd.own_blk (V_away HO0.out (fun _ hk => hk.1.2) L0_.out (by decide))) | (dsimp only; exact Kd.own_blk (V_away HO0.out (fun _ hk => hk.1.2) L0_.out (by decide)))) _).trans (((cell_far (p := ⟨gb149, _, none⟩) (by first | exact Kd.own_blk (V_away HO0.out (fun _ hk => hk.1.2) L0_.out (by decide)) | (rw [add_block]; exact Kd.own_blk (V_away HO0.out (fun _ hk => hk.1.2) L0_.out (by decide))) | (show (Addr.add _ _).block ≠ _; rw [add_block]; exact Kd.own_blk (V_away HO0.out (fun _ hk => hk.1.2) L0_.out (by decide))) | (dsimp only; exact Kd.own_blk (V_away HO0.out (fun _ hk => hk.1.2) L0_.out (by decide)))) _).trans (((cell_far (p := ⟨gb149, _, none⟩) (by first | exact Kd.own_blk (V_away HO0.out (fun _ hk => hk.1.2) L0_.out (by decide)) | (rw [add_block]; exact Kd.own_blk (V_away HO0.out (fun _ hk => hk.1.2) L0_.out (by decide))) | (show (Addr.add _ _).block ≠ _; rw [add_block]; exact Kd.own_blk (V_away HO0.out (fun _ hk => hk.1.2) L0_.out (by decide))) | (dsimp only; exact Kd.own_blk (V_away HO0.out (fun _ hk => hk.1.2) L0_.out (by decide)))) _).trans (((cell_far (p := ⟨gb149, _, none⟩) (by first | exact Kd.own_blk (V_away HO0.out (fun _ hk => hk.1.2) L0_.out (by decide)) | (rw [add_block]; exact Kd.own_blk (V_away HO0.out (fun _ hk => hk.1.2) L0_.out (by decide))) | (show (Addr.add _ _).block ≠ _; rw [add_block]; exact Kd.own_blk (V_away HO0.out (fun _ hk => hk.1.2) L0_.out (by decide))) | (dsimp only; exact Kd.own_blk (V_away HO0.out (fun _ hk => hk.1.2) L0_.out (by decide)))) _).trans (((cell_far (p := ⟨gb149, _, none⟩) (by first | exact Kd.own_blk (V_away HO0.out (fun _ hk => hk.1.2) L0_.out (by decide)) | (rw [add_block]; exact Kd.own_blk (V_away HO0.out (fun _ hk => hk.1.2) L0_.out (by decide))) | (show (Addr.add _ _).block ≠ _; rw [add_block]; exact Kd.own_blk (V_away HO0.out (fun _ hk => hk.1.2) L0_.out (by decide))) | (dsimp only; exact Kd.own_blk (V_away HO0.out (fun _ hk => hk.1.2) L0_.out (by decide)))) _).trans (hHeld.2.2.1)))))))))))))))))))))))), ((cell_far (p := ⟨gb149, _, none⟩) (by first | exact Kd.own_blk (V_away HO0.out (fun _ hk => hk.1.2) L0_.out (by decide)) | (rw [add_block]; exact Kd.own_blk (V_away HO0.out (fun _ hk => hk.1.2) L0_.out (by decide))) | (show (Addr.add _ _).block ≠ _; rw [add_block]; exact Kd.own_blk (V_away HO0.out (fun _ hk => hk.1.2) L0_.out (by decide))) | (dsimp only; exact Kd.own_blk (V_away HO0.out (fun _ hk => hk.1.2) L0_.out (by decide)))) _).trans (((cell_far (p := ⟨gb149, _, none⟩) (by first | exact Kd.own_blk (V_away HO0.out (fun _ hk => hk.1.2) L0_.out (by decide)) | (rw [add_block]; exact Kd.own_blk (V_away HO0.out (fun _ hk => hk.1.2) L0_.out (by decide))) | (show (Addr.add _ _).block ≠ _; rw [add_block]; exact Kd.own_blk (V_away HO0.out (fun _ hk => hk.1.2) L0_.out (by decide))) | (dsimp only; exact Kd.own_blk (V_away HO0.out (fun _ hk => hk.1.2) L0_.out (by decide)))) _).trans (((cell_far (p := ⟨gb149, _, none⟩) (by first | exact Kd.own_blk (V_away HO0.out (fun _ hk => hk.1.2) L0_.out (by decide)) | (rw [add_block]; exact Kd.own_blk (V_away HO0.out (fun _ hk => hk.1.2) L0_.out (by decide))) | (show (Addr.add _ _).block ≠ _; rw [add_block]; exact Kd.own_blk (V_away HO0.out (fun _ hk => hk.1.2) L0_.out (by decide))) | (dsimp only; exact Kd.own_blk (V_away HO0.out (fun _ hk => hk.1.2) L0_.out (by decide)))) _).trans (((cell_far (p := ⟨gb149, _, none⟩) (by first | exact Kd.own_blk (V_away HO0.out (fun _ hk => hk.1.2) L0_.out (by decide)) | (rw [add_block]; exact Kd.own_blk (V_away HO0.out (fun _ hk => hk.1.2) L0_.out (by decide))) | (show (Addr.add _ _).block ≠ _; rw [add_block]; exact Kd.own_blk (V_away HO0.out (fun _ hk => hk.1.2) L0_.out (by decide))) | (dsimp only; exact Kd.own_blk (V_away HO0.out (fun _ hk => hk.1.2) L0_.out (by decide)))) _).trans (((cell_far (p := ⟨gb149, _, none⟩) (by first | exact Kd.own_blk (V_away HO0.out (fun _ hk => hk.1.2) L0_.out (by decide)) | (rw [add_block]; exact Kd.own_blk (V_away HO0.out (fun _ hk => hk.1.2) L0_.out (by decide))) | (show (Addr.add _ _).block ≠ _; rw [add_block]; exact Kd.own_blk (V_away HO0.out (fun _ hk => hk.1.2) L0_.out (by decide))) | (dsimp only; exact Kd.own_blk (V_away HO0.out (fun _ hk => hk.1.2) L0_.out (by decide)))) _).trans (((cell_far (p := ⟨gb149, _, none⟩) (by first | exact Kd.own_blk (V_away HO0.out (fun _ hk => hk.1.2) L0_.out (by decide)) | (rw [add_block]; exact Kd.own_blk (V_away HO0.out (fun _ hk => hk.1.2) L0_.out (by decide))) | (show (Addr.add _ _).block ≠ _; rw [add_block]; exact Kd.own_blk (V_away HO0.out (fun _ hk => hk.1.2) L0_.out (by decide))) | (dsimp only; exact Kd.own_blk (V_away HO0.out (fun _ hk => hk.1.2) L0_.out (by decide)))) _).trans (((cell_far (p := ⟨gb149, _, none⟩) (by first | exact Kd.own_blk (V_away HO0.out (fun _ hk => hk.1.2) L0_.out (by decide)) | (rw [add_block]; exact Kd.own_blk (V_away HO0.out (fun _ hk => hk.1.2) L0_.out (by decide))) | (show (Addr.add _ _).block ≠ _; rw [add_block]; exact Kd.own_blk (V_away HO0.out (fun _ hk => hk.1.2) L0_.out (by decide))) | (dsimp only; exact Kd.own_blk (V_away HO0.out (fun _ hk => hk.1.2) L0_.out (by decide)))) _).trans (((cell_far (p := ⟨gb149, _, none⟩) (by first | exact Kd.own_blk (V_away HO0.out (fun _ hk => hk.1.2) L0_.out (by decide)) | (rw [add_block]; exact Kd.own_blk (V_away HO0.out (fun _ hk => hk.1.2) L0_.out (by decide))) | (show (Addr.add _ _).block ≠ _; rw [add_block]; exact Kd.own_blk (V_away HO0.out (fun _ hk => hk.1.2) L0_.out (by decide))) | (dsimp only; exact Kd.own_blk (V_away HO0.out (fun _ hk => hk.1.2) L0_.out (by decide)))) _).trans (((cell_far (p := ⟨gb149, _, none⟩) (by first | exact Kd.own_blk (V_away HO0.out (fun _ hk => hk.1.2) L0_.out (by decide)) | (rw [add_block]; exact Kd.own_blk (V_away HO0.out (fun _ hk => hk.1.2) L0_.out (by decide))) | (show (Addr.add _ _).block ≠ _; rw [add_block]; exact Kd.own_blk (V_away HO0.out (fun _ hk => hk.1.2) L0_.out (by decide))) | (dsimp only; exact Kd.own_blk (V_away HO0.out (fun _ hk => hk.1.2) L0_.out (by decide)))) _).trans (((cell_far (p := ⟨gb149, _, none⟩) (by first | exact Kd.own_blk (V_away HO0.out (fun _ hk => hk.1.2) L0_.out (by decide)) | (rw [add_block]; exact Kd.own_blk (V_away HO0.out (fun _ hk => hk.1.2) L0_.out (by decide))) | (show (Addr.add _ _).block ≠ _; rw [add_block]; exact Kd.own_blk (V_away HO0.out (fun _ hk => hk.1.2) L0_.out (by decide))) | (dsimp only; exact Kd.own_blk (V_away HO0.out (fun _ hk => hk.1.2) L0_.out (by decide)))) _).trans (((cell_far (p := ⟨gb149, _, none⟩) (by first | exact Kd.own_blk (V_away HO0.out (fun _ hk => hk.1.2) L0_.out (by decide)) | (rw [add_block]; exact Kd.own_blk (V_away HO0.out (fun _ hk => hk.1.2) L0_.out (by decide))) | (show (Addr.add _ _).block ≠ _; rw [add_block]; exact Kd.own_blk (V_away HO0.out (fun _ hk => hk.1.2) L0_.out (by decide))) | (dsimp only; exact Kd.own_blk (V_away HO0.out (fun _ hk => hk.1.2) L0_.out (by decide)))) _).trans (((cell_far (p := ⟨gb149, _, none⟩) (by first | exact Kd.own_blk (V_away HO0.out (fun _ hk => hk.1.2) L0_.out (by decide)) | (rw [add_block]; exact Kd.own_blk (V_away HO0.out (fun _ hk => hk.1.2) L0_.out (by decide))) | (show (Addr.add _ _).block ≠ _; rw [add_block]; exact Kd.own_blk (V_away HO0.out (fun _ hk => hk.1.2) L0_.out (by decide))) | (dsimp only; exact Kd.own_blk (V_away HO0.out (fun _ hk => hk.1.2) L0_.out (by decide)))) _).trans (hHeld.2.2.2.1)))))))))))))))))))))))), ((cell_far (p := ⟨gb149, _, none⟩) (by first | exact Kd.own_blk (V_away HO0.out (fun _ hk => hk.1.2) L0_.out (by decide)) | (rw [add_block]; exact Kd.own_blk (V_away HO0.out (fun _ hk => hk.1.2) L0_.out (by decide))) | (show (Addr.add _ _).block ≠ _; rw [add_block]; exact Kd.own_blk (V_away HO0.out (fun _ hk => hk.1.2) L0_.out (by decide))) | (dsimp only; exact Kd.own_blk (V_away HO0.out (fun _ hk => hk.1.2) L0_.out (by decide)))) _).trans (((cell_far (p := ⟨gb149, _, none⟩) (by first | exact Kd.own_blk (V_away HO0.out (fun _ hk => hk.1.2) L0_.out (by decide)) | (rw [add_block]; exact Kd.own_blk (V_away HO0.out (fun _ hk => hk.1.2) L0_.out (by decide))) | (show (Addr.add _ _).block ≠ _; rw [add_block]; exact Kd.own_blk (V_away HO0.out (fun _ hk => hk.1.2) L0_.out (by decide))) | (dsimp only; exact Kd.own_blk (V_away HO0.out (fun _ hk => hk.1.2) L0_.out (by decide)))) _).trans (((cell_far (p := ⟨gb149, _, none⟩) (by first | exact Kd.own_blk (V_away HO0.out (fun _ hk => hk.1.2) L0_.out (by decide)) | (rw [add_block]; exact Kd.own_blk (V_away HO0.out (fun _ hk => hk.1.2) L0_.out (by decide))) | (show (Addr.add _ _).block ≠ _; rw [add_block]; exact Kd.own_blk (V_away HO0.out (fun _ hk => hk.1.2) L0_.out (by decide))) | (dsimp only; exact Kd.own_blk (V_away HO0.out (fun _ hk => hk.1.2) L0_.out (by decide)))) _).trans (((cell_far (p := ⟨gb149, _, none⟩) (by first | exact Kd.own_blk (V_away HO0.out (fun _ hk => hk.1.2) L0_.out (by decide)) | (rw [add_block]; exact Kd.own_blk (V_away HO0.out (fun _ hk => hk.1.2) L0_.out (by decide))) | (show (Addr.add _ _).block ≠ _; rw [add_block]; exact Kd.own_blk (V_away HO0.out (fun _ hk => hk.1.2) L0_.out (by decide))) | (dsimp only; exact Kd.own_blk (V_away HO0.out (fun _ hk => hk.1.2) L0_.out (by decide)))) _).trans (((cell_far (p := ⟨gb149, _, none⟩) (by first | exact Kd.own_blk (V_away HO0.out (fun _ hk => hk.1.2) L0_.out (by decide)) | (rw [add_block]; exact Kd.own_blk (V_away HO0.out (fun _ hk => hk.1.2) L0_.out (by decide))) | (show (Addr.add _ _).block ≠ _; rw [add_block]; exact Kd.own_blk (V_away HO0.out (fun _ hk => hk.1.2) L0_.out (by decide))) | (dsimp only; exact Kd.own_blk (V_away HO0.out (fun _ hk => hk.1.2) L0_.out (by decide)))) _).trans (((cell_far (p := ⟨gb149, _, none⟩) (by first | exact Kd.own_blk (V_away HO0.out (fun _ hk => hk.1.2) L0_.out (by decide)) | (rw [add_block]; exact Kd.own_blk (V_away HO0.out (fun _ hk => hk.1.2) L0_.out (by decide))) | (show (Addr.add _ _).block ≠ _; rw [add_block]; exact Kd.own_blk (V_away HO0.out (fun _ hk => hk.1.2) L0_.out (by decide))) | (dsimp only; exact Kd.own_blk (V_away HO0.out (fun _ hk => hk.1.2) L0_.out (by decide)))) _).trans (((cell_far (p := ⟨gb149, _, none⟩) (by first | exact Kd.own_blk (V_away HO0.out (fun _ hk => hk.1.2) L0_.out (by decide)) | (rw [add_block]; exact Kd.own_blk (V_away HO0.out (fun _ hk => hk.1.2) L0_.out (by decide))) | (show (Addr.add _ _).block ≠ _; rw [add_block]; exact Kd.own_blk (V_away HO0.out (fun _ hk => hk.1.2) L0_.out (by decide))) | (dsimp only; exact Kd.own_blk (V_away HO0.out (fun _ hk => hk.1.2) L0_.out (by decide)))) _).trans (((cell_far (p := ⟨gb149, _, none⟩) (by first | exact Kd.own_blk (V_away HO0.out (fun _ hk => hk.1.2) L0_.out (by decide)) | (rw [add_block]; exact Kd.own_blk (V_away HO0.out (fun _ hk => hk.1.2) L0_.out (by decide))) | (show (Addr.add _ _).block ≠ _; rw [add_block]; exact Kd.own_blk (V_away HO0.out (fun _ hk => hk.1.2) L0_.out (by decide))) | (dsimp only; exact Kd.own_blk (V_away HO0.out (fun _ hk => hk.1.2) L0_.out (by decide)))) _).trans (((cell_far (p := ⟨gb149, _, none⟩) (by first | exact Kd.own_blk (V_away HO0.out (fun _ hk => hk.1.2) L0_.out (by decide)) | (rw [add_block]; exact Kd.own_blk (V_away HO0.out (fun _ hk => hk.1.2) L0_.out (by decide))) | (show (Addr.add _ _).block ≠ _; rw [add_block]; exact Kd.own_blk (V_away HO0.out (fun _ hk => hk.1.2) L0_.out (by decide))) | (dsimp only; exact Kd.own_blk (V_away HO0.out (fun _ hk => hk.1.2) L0_.out (by decide)))) _).trans (((cell_far (p := ⟨gb149, _, none⟩) (by first | exact Kd.own_blk (V_away HO0.out (fun _ hk => hk.1.2) L0_.out (by decide)) | (rw [add_block]; exact Kd.own_blk (V_away HO0.out (fun _ hk => hk.1.2) L0_.out (by decide))) | (show (Addr.add _ _).block ≠ _; rw [add_block]; exact Kd.own_blk (V_away HO0.out (fun _ hk => hk.1.2) L0_.out (by decide))) | (dsimp only; exact Kd.own_blk (V_away HO0.out (fun _ hk => hk.1.2) L0_.out (by decide)))) _).trans (((cell_far (p := ⟨gb149, _, none⟩) (by first | exact Kd.own_blk (V_away HO0.out (fun _ hk => hk.1.2) L0_.out (by decide)) | (rw [add_block]; exact Kd.own_blk (V_away HO0.out (fun _ hk => hk.1.2) L0_.out (by decide))) | (show (Addr.add _ _).block ≠ _; rw [add_block]; exact Kd.own_blk (V_away HO0.out (fun _ hk => hk.1.2) L0_.out (by decide))) | (dsimp only; exact Kd.own_blk (V_away HO0.out (fun _ hk => hk.1.2) L0_.out (by decide)))) _).trans (((cell_far (p := ⟨gb149, _, none⟩) (by first | exact Kd.own_blk (V_away HO0.out (fun _ hk => hk.1.2) L0_.out (by decide)) | (rw [add_block]; exact Kd.own_blk (V_away HO0.out (fun _ hk => hk.1.2) L0_.out (by decide))) | (show (Addr.add _ _).block ≠ _; rw [add_block]; exact Kd.own_blk (V_away HO0.out (fun _ hk => hk.1.2) L0_.out (by decide))) | (dsimp only; exact Kd.own_blk (V_away HO0.out (fun _ hk => hk.1.2) L0_.out (by decide)))) _).trans (hHeld.2.2.2.2.1)))))))))))))))))))))))), ((cell_far (p := ⟨gb149, _, none⟩) (by first | exact Kd.own_blk (V_away HO0.out (fun _ hk => hk.1.2) L0_.out (by decide)) | (rw [add_block]; exact Kd.own_blk (V_away HO0.out (fun _ hk => hk.1.2) L0_.out (by decide))) | (show (Addr.add _ _).block ≠ _; rw [add_block]; exact Kd.own_blk (V_away HO0.out (fun _ hk => hk.1.2) L0_.out (by decide))) | (dsimp only; exact Kd.own_blk (V_away HO0.out (fun _ hk => hk.1.2) L0_.out (by decide)))) _).trans (((cell_far (p := ⟨gb149, _, none⟩) (by first | exact Kd.own_blk (V_away HO0.out (fun _ hk => hk.1.2) L0_.out (by decide)) | (rw [add_block]; exact Kd.own_blk (V_away HO0.out (fun _ hk => hk.1.2) L0_.out (by decide))) | (show (Addr.add _ _).block ≠ _; rw [add_block]; exact Kd.own_blk (V_away HO0.out (fun _ hk => hk.1.2) L0_.out (by decide))) | (dsimp only; exact Kd.own_blk (V_away HO0.out (fun _ hk => hk.1.2) L0_.out (by decide)))) _).trans (((cell_far (p := ⟨gb149, _, none⟩) (by first | exact Kd.own_blk (V_away HO0.out (fun _ hk => hk.1.2) L0_.out (by decide)) | (rw [add_block]; exact Kd.own_blk (V_away HO0.out (fun _ hk => hk.1.2) L0_.out (by decide))) | (show (Addr.add _ _).block ≠ _; rw [add_block]; exact Kd.own_blk (V_away HO0.out (fun _ hk => hk.1.2) L0_.out (by decide))) | (dsimp only; exact Kd.own_blk (V_away HO0.out (fun _ hk => hk.1.2) L0_.out (by decide)))) _).trans (((cell_far (p := ⟨gb149, _, none⟩) (by first | exact Kd.own_blk (V_away HO0.out (fun _ hk => hk.1.2) L0_.out (by decide)) | (rw [add_block]; exact Kd.own_blk (V_away HO0.out (fun _ hk => hk.1.2) L0_.out (by decide))) | (show (Addr.add _ _).block ≠ _; rw [add_block]; exact Kd.own_blk (V_away HO0.out (fun _ hk => hk.1.2) L0_.out (by decide))) | (dsimp only; exact Kd.own_blk (V_away HO0.out (fun _ hk => hk.1.2) L0_.out (by decide)))) _).trans (((cell_far (p := ⟨gb149, _, none⟩) (by first | exact Kd.own_blk (V_away HO0.out (fun _ hk => hk.1.2) L0_.out (by decide)) | (rw [add_block]; exact Kd.own_blk (V_away HO0.out (fun _ hk => hk.1.2) L0_.out (by decide))) | (show (Addr.add _ _).block ≠ _; rw [add_block]; exact Kd.own_blk (V_away HO0.out (fun _ hk => hk.1.2) L0_.out (by decide))) | (dsimp only; exact Kd.own_blk (V_away HO0.out (fun _ hk => hk.1.2) L0_.out (by decide)))) _).trans (((cell_far (p := ⟨gb149, _, none⟩) (by first | exact Kd.own_blk (V_away HO0.out (fun _ hk => hk.1.2) L0_.out (by decide)) | (rw [add_block]; exact Kd.own_blk (V_away HO0.out (fun _ hk => hk.1.2) L0_.out (by decide))) | (show (Addr.add _ _).block ≠ _; rw [add_block]; exact Kd.own_blk (V_away HO0.out (fun _ hk => hk.1.2) L0_.out (by decide))) | (dsimp only; exact Kd.own_blk (V_away HO0.out (fun _ hk => hk.1.2) L0_.out (by decide)))) _).trans (((cell_far (p := ⟨gb149, _, none⟩) (by first | exact Kd.own_blk (V_away HO0.out (fun _ hk => hk.1.2) L0_.out (by decide)) | (rw [add_block]; exact Kd.own_blk (V_away HO0.out (fun _ hk => hk.1.2) L0_.out (by decide))) | (show (Addr.add _ _).block ≠ _; rw [add_block]; exact Kd.own_blk (V_away HO0.out (fun _ hk => hk.1.2) L0_.out (by decide))) | (dsimp only; exact Kd.own_blk (V_away HO0.out (fun _ hk => hk.1.2) L0_.out (by decide)))) _).trans (((cell_far (p := ⟨gb149, _, none⟩) (by first | exact Kd.own_blk (V_away HO0.out (fun _ hk => hk.1.2) L0_.out (by decide)) | (rw [add_block]; exact Kd.own_blk (V_away HO0.out (fun _ hk => hk.1.2) L0_.out (by decide))) | (show (Addr.add _ _).block ≠ _; rw [add_block]; exact Kd.own_blk (V_away HO0.out (fun _ hk => hk.1.2) L0_.out (by decide))) | (dsimp only; exact Kd.own_blk (V_away HO0.out (fun _ hk => hk.1.2) L0_.out (by decide)))) _).trans (((cell_far (p := ⟨gb149, _, none⟩) (by first | exact Kd.own_blk (V_away HO0.out (fun _ hk => hk.1.2) L0_.out (by decide)) | (rw [add_block]; exact Kd.own_blk (V_away HO0.out (fun _ hk => hk.1.2) L0_.out (by decide))) | (show (Addr.add _ _).block ≠ _; rw [add_block]; exact Kd.own_blk (V_away HO0.out (fun _ hk => hk.1.2) L0_.out (by decide))) | (dsimp only; exact Kd.own_blk (V_away HO0.out (fun _ hk => hk.1.2) L0_.out (by decide)))) _).trans (((cell_far (p := ⟨gb149, _, none⟩) (by first | exact Kd.own_blk (V_away HO0.out (fun _ hk => hk.1.2) L0_.out (by decide)) | (rw [add_block]; exact Kd.own_blk (V_away HO0.out (fun _ hk => hk.1.2) L0_.out (by decide))) | (show (Addr.add _ _).block ≠ _; rw [add_block]; exact Kd.own_blk (V_away HO0.out (fun _ hk => hk.1.2) L0_.out (by decide))) | (dsimp only; exact Kd.own_blk (V_away HO0.out (fun _ hk => hk.1.2) L0_.out (by decide)))) _).trans (((cell_far (p := ⟨gb149, _, none⟩) (by first | exact Kd.own_blk (V_away HO0.out (fun _ hk => hk.1.2) L0_.out (by decide)) | (rw [add_block]; exact Kd.own_blk (V_away HO0.out (fun _ hk => hk.1.2) L0_.out (by decide))) | (show (Addr.add _ _).block ≠ _; rw [add_block]; exact Kd.own_blk (V_away HO0.out (fun _ hk => hk.1.2) L0_.out (by decide))) | (dsimp only; exact Kd.own_blk (V_away HO0.out (fun _ hk => hk.1.2) L0_.out (by decide)))) _).trans (((cell_far (p := ⟨gb149, _, none⟩) (by first | exact Kd.own_blk (V_away HO0.out (fun _ hk => hk.1.2) L0_.out (by decide)) | (rw [add_block]; exact Kd.own_blk (V_away HO0.out (fun _ hk => hk.1.2) L0_.out (by decide))) | (show (Addr.add _ _).block ≠ _; rw [add_block]; exact Kd.own_blk (V_away HO0.out (fun _ hk => hk.1.2) L0_.out (by decide))) | (dsimp only; exact Kd.own_blk (V_away HO0.out (fun _ hk => hk.1.2) L0_.out (by decide)))) _).trans (hHeld.2.2.2.2.2.1)))))))))))))))))))))))), ((cell_far (p := ⟨gb149, _, none⟩) (by first | exact Kd.own_blk (V_away HO0.out (fun _ hk => hk.1.2) L0_.out (by decide)) | (rw [add_block]; exact Kd.own_blk (V_away HO0.out (fun _ hk => hk.1.2) L0_.out (by decide))) | (show (Addr.add _ _).block ≠ _; rw [add_block]; exact Kd.own_blk (V_away HO0.out (fun _ hk => hk.1.2) L0_.out (by decide))) | (dsimp only; exact Kd.own_blk (V_away HO0.out (fun _ hk => hk.1.2) L0_.out (by decide)))) _).trans (((cell_far (p := ⟨gb149, _, none⟩) (by first | exact Kd.own_blk (V_away HO0.out (fun _ hk => hk.1.2) L0_.out (by decide)) | (rw [add_block]; exact Kd.own_blk (V_away HO0.out (fun _ hk => hk.1.2) L0_.out (by decide))) | (show (Addr.add _ _).block ≠ _; rw [add_block]; exact Kd.own_blk (V_away HO0.out (fun _ hk => hk.1.2) L0_.out (by decide))) | (dsimp only; exact Kd.own_blk (V_away HO0.out (fun _ hk => hk.1.2) L0_.out (by decide)))) _).trans (((cell_far (p := ⟨gb149, _, none⟩) (by first | exact Kd.own_blk (V_away HO0.out (fun _ hk => hk.1.2) L0_.out (by decide)) | (rw [add_block]; exact Kd.own_blk (V_away HO0.out (fun _ hk => hk.1.2) L0_.out (by decide))) | (show (Addr.add _ _).block ≠ _; rw [add_block]; exact Kd.own_blk (V_away HO0.out (fun _ hk => hk.1.2) L0_.out (by decide))) | (dsimp only; exact Kd.own_blk (V_away HO0.out (fun _ hk => hk.1.2) L0_.out (by decide)))) _).trans (((cell_far (p := ⟨gb149, _, none⟩) (by first | exact Kd.own_blk (V_away HO0.out (fun _ hk => hk.1.2) L0_.out (by decide)) | (rw [add_block]; exact Kd.own_blk (V_away HO0.out (fun _ hk => hk.1.2) L0_.out (by decide))) | (show (Addr.add _ _).block ≠ _; rw [add_block]; exact Kd.own_blk (V_away HO0.out (fun _ hk => hk.1.2) L0_.out (by decide))) | (dsimp only; exact Kd.own_blk (V_away HO0.out (fun _ hk => hk.1.2) L0_.out (by decide)))) _).trans (((cell_far (p := ⟨gb149, _, none⟩) (by first | exact Kd.own_blk (V_away HO0.out (fun _ hk => hk.1.2) L0_.out (by decide)) | (rw [add_block]; exact Kd.own_blk (V_away HO0.out (fun _ hk => hk.1.2) L0_.out (by decide))) | (show (Addr.add _ _).block ≠ _; rw [add_block]; exact Kd.own_blk (V_away HO0.out (fun _ hk => hk.1.2) L0_.out (by decide))) | (dsimp only; exact Kd.own_blk (V_away HO0.out (fun _ hk => hk.1.2) L0_.out (by decide)))) _).trans (((cell_far (p := ⟨gb149, _, none⟩) (by first | exact Kd.own_blk (V_away HO0.out (fun _ hk => hk.1.2) L0_.out (by decide)) | (rw [add_block]; exact Kd.own_blk (V_away HO0.out (fun _ hk => hk.1.2) L0_.out (by decide))) | (show (Addr.add _ _).block ≠ _; rw [add_block]; exact Kd.own_blk (V_away HO0.out (fun _ hk => hk.1.2) L0_.out (by decide))) | (dsimp only; exact Kd.own_blk (V_away HO0.out (fun _ hk => hk.1.2) L0_.out (by decide)))) _).trans (((cell_far (p := ⟨gb149, _, none⟩) (by first | exact Kd.own_blk (V_away HO0.out (fun _ hk => hk.1.2) L0_.out (by decide)) | (rw [add_block]; exact Kd.own_blk (V_away HO0.out (fun _ hk => hk.1.2) L0_.out (by decide))) | (show (Addr.add _ _).block ≠ _; rw [add_block]; exact Kd.own_blk (V_away HO0.out (fun _ hk => hk.1.2) L0_.out (by decide))) | (dsimp only; exact Kd.own_blk (V_away HO0.out (fun _ hk => hk.1.2) L0_.out (by decide)))) _).trans (((cell_far (p := ⟨gb149, _, none⟩) (by first | exact Kd.own_blk (V_away HO0.out (fun _ hk => hk.1.2) L0_.out (by decide)) | (rw [add_block]; exact Kd.own_blk (V_away HO0.out (fun _ hk => hk.1.2) L0_.out (by decide))) | (show (Addr.add _ _).block ≠ _; rw [add_block]; exact Kd.own_blk (V_away HO0.out (fun _ hk => hk.1.2) L0_.out (by decide))) | (dsimp only; exact Kd.own_blk (V_away HO0.out (fun _ hk => hk.1.2) L0_.out (by decide)))) _).trans (((cell_far (p := ⟨gb149, _, none⟩) (by first | exact Kd.own_blk (V_away HO0.out (fun _ hk => hk.1.2) L0_.out (by decide)) | (rw [add_block]; exact Kd.own_blk (V_away HO0.out (fun _ hk => hk.1.2) L0_.out (by decide))) | (show (Addr.add _ _).block ≠ _; rw [add_block]; exact Kd.own_blk (V_away HO0.out (fun _ hk => hk.1.2) L0_.out (by decide))) | (dsimp only; exact Kd.own_blk (V_away HO0.out (fun _ hk => hk.1.2) L0_.out (by decide)))) _).trans (((cell_far (p := ⟨gb149, _, none⟩) (by first | exact Kd.own_blk (V_away HO0.out (fun _ hk => hk.1.2) L0_.out (by decide)) | (rw [add_block]; exact Kd.own_blk (V_away HO0.out (fun _ hk => hk.1.2) L0_.out (by decide))) | (show (Addr.add _ _).block ≠ _; rw [add_block]; exact Kd.own_blk (V_away HO0.out (fun _ hk => hk.1.2) L0_.out (by decide))) | (dsimp only; exact Kd.own_blk (V_away HO0.out (fun _ hk => hk.1.2) L0_.out (by decide)))) _).trans (((cell_far (p := ⟨gb149, _, none⟩) (by first | exact Kd.own_blk (V_away HO0.out (fun _ hk => hk.1.2) L0_.out (by decide)) | (rw [add_block]; exact Kd.own_blk (V_away HO0.out (fun _ hk => hk.1.2) L0_.out (by decide))) | (show (Addr.add _ _).block ≠ _; rw [add_block]; exact Kd.own_blk (V_away HO0.out (fun _ hk => hk.1.2) L0_.out (by decide))) | (dsimp only; exact Kd.own_blk (V_away HO0.out (fun _ hk => hk.1.2) L0_.out (by decide)))) _).trans (((cell_far (p := ⟨gb149, _, none⟩) (by first | exact Kd.own_blk (V_away HO0.out (fun _ hk => hk.1.2) L0_.out (by decide)) | (rw [add_block]; exact Kd.own_blk (V_away HO0.out (fun _ hk => hk.1.2) L0_.out (by decide))) | (show (Addr.add _ _).block ≠ _; rw [add_block]; exact Kd.own_blk (V_away HO0.out (fun _ hk => hk.1.2) L0_.out (by decide))) | (dsimp only; exact Kd.own_blk (V_away HO0.out (fun _ hk => hk.1.2) L0_.out (by decide)))) _).trans (hHeld.2.2.2.2.2.2.1)))))))))))))))))))))))), ((cell_far (p := ⟨gb149, _, none⟩) (by first | exact Kd.own_blk (V_away HO0.out (fun _ hk => hk.1.2) L0_.out (by decide)) | (rw [add_block]; exact Kd.own_blk (V_away HO0.out (fun _ hk => hk.1.2) L0_.out (by decide))) | (show (Addr.add _ _).block ≠ _; rw [add_block]; exact Kd.own_blk (V_away HO0.out (fun _ hk => hk.1.2) L0_.out (by decide))) | (dsimp only; exact Kd.own_blk (V_away HO0.out (fun _ hk => hk.1.2) L0_.out (by decide)))) _).trans (((cell_far (p := ⟨gb149, _, none⟩) (by first | exact Kd.own_blk (V_away HO0.out (fun _ hk => hk.1.2) L0_.out (by decide)) | (rw [add_block]; exact Kd.own_blk (V_away HO0.out (fun _ hk => hk.1.2) L0_.out (by decide))) | (show (Addr.add _ _).block ≠ _; rw [add_block]; exact Kd.own_blk (V_away HO0.out (fun _ hk => hk.1.2) L0_.out (by decide))) | (dsimp only; exact Kd.own_blk (V_away HO0.out (fun _ hk => hk.1.2) L0_.out (by decide)))) _).trans (((cell_far (p := ⟨gb149, _, none⟩) (by first | exact Kd.own_blk (V_away HO0.out (fun _ hk => hk.1.2) L0_.out (by decide)) | (rw [add_block]; exact Kd.own_blk (V_away HO0.out (fun _ hk => hk.1.2) L0_.out (by decide))) | (show (Addr.add _ _).block ≠ _; rw [add_block]; exact Kd.own_blk (V_away HO0.out (fun _ hk => hk.1.2) L0_.out (by decide))) | (dsimp only; exact Kd.own_blk (V_away HO0.out (fun _ hk => hk.1.2) L0_.out (by decide)))) _).trans (((cell_far (p := ⟨gb149, _, none⟩) (by first | exact Kd.own_blk (V_away HO0.out (fun _ hk => hk.1.2) L0_.out (by decide)) | (rw [add_block]; exact Kd.own_blk (V_away HO0.out (fun _ hk => hk.1.2) L0_.out (by decide))) | (show (Addr.add _ _).block ≠ _; rw [add_block]; exact Kd.own_blk (V_away HO0.out (fun _ hk => hk.1.2) L0_.out (by decide))) | (dsimp only; exact Kd.own_blk (V_away HO0.out (fun _ hk => hk.1.2) L0_.out (by decide)))) _).trans (((cell_far (p := ⟨gb149, _, none⟩) (by first | exact Kd.own_blk (V_away HO0.out (fun _ hk => hk.1.2) L0_.out (by decide)) | (rw [add_block]; exact Kd.own_blk (V_away HO0.out (fun _ hk => hk.1.2) L0_.out (by decide))) | (show (Addr.add _ _).block ≠ _; rw [add_block]; exact Kd.own_blk (V_away HO0.out (fun _ hk => hk.1.2) L0_.out (by decide))) | (dsimp only; exact Kd.own_blk (V_away HO0.out (fun _ hk => hk.1.2) L0_.out (by decide)))) _).trans (((cell_far (p := ⟨gb149, _, none⟩) (by first | exact Kd.own_blk (V_away HO0.out (fun _ hk => hk.1.2) L0_.out (by decide)) | (rw [add_block]; exact Kd.own_blk (V_away HO0.out (fun _ hk => hk.1.2) L0_.out (by decide))) | (show (Addr.add _ _).block ≠ _; rw [add_block]; exact Kd.own_blk (V_away HO0.out (fun _ hk => hk.1.2) L0_.out (by decide))) | (dsimp only; exact Kd.own_blk (V_away HO0.out (fun _ hk => hk.1.2) L0_.out (by decide)))) _).trans (((cell_far (p := ⟨gb149, _, none⟩) (by first | exact Kd.own_blk (V_away HO0.out (fun _ hk => hk.1.2) L0_.out (by decide)) | (rw [add_block]; exact Kd.own_blk (V_away HO0.out (fun _ hk => hk.1.2) L0_.out (by decide))) | (show (Addr.add _ _).block ≠ _; rw [add_block]; exact Kd.own_blk (V_away HO0.out (fun _ hk => hk.1.2) L0_.out (by decide))) | (dsimp only; exact Kd.own_blk (V_away HO0.out (fun _ hk => hk.1.2) L0_.out (by decide)))) _).trans (((cell_far (p := ⟨gb149, _, none⟩) (by first | exact Kd.own_blk (V_away HO0.out (fun _ hk => hk.1.2) L0_.out (by decide)) | (rw [add_block]; exact Kd.own_blk (V_away HO0.out (fun _ hk => hk.1.2) L0_.out (by decide))) | (show (Addr.add _ _).block ≠ _; rw [add_block]; exact Kd.own_blk (V_away HO0.out (fun _ hk => hk.1.2) L0_.out (by decide))) | (dsimp only; exact Kd.own_blk (V_away HO0.out (fun _ hk => hk.1.2) L0_.out (by decide)))) _).trans (((cell_far (p := ⟨gb149, _, none⟩) (by first | exact Kd.own_blk (V_away HO0.out (fun _ hk => hk.1.2) L0_.out (by decide)) | (rw [add_block]; exact Kd.own_blk (V_away HO0.out (fun _ hk => hk.1.2) L0_.out (by decide))) | (show (Addr.add _ _).block ≠ _; rw [add_block]; exact Kd.own_blk (V_away HO0.out (fun _ hk => hk.1.2) L0_.out (by decide))) | (dsimp only; exact Kd.own_blk (V_away HO0.out (fun _ hk => hk.1.2) L0_.out (by decide)))) _).trans (((cell_far (p := ⟨gb149, _, none⟩) (by first | exact Kd.own_blk (V_away HO0.out (fun _ hk => hk.1.2) L0_.out (by decide)) | (rw [add_block]; exact Kd.own_blk (V_away HO0.out (fun _ hk => hk.1.2) L0_.out (by decide))) | (show (Addr.add _ _).block ≠ _; rw [add_block]; exact Kd.own_blk (V_away HO0.out (fun _ hk => hk.1.2) L0_.out (by decide))) | (dsimp only; exact Kd.own_blk (V_away HO0.out (fun _ hk => hk.1.2) L0_.out (by decide)))) _).trans (((cell_far (p := ⟨gb149, _, none⟩) (by first | exact Kd.own_blk (V_away HO0.out (fun _ hk => hk.1.2) L0_.out (by decide)) | (rw [add_block]; exact Kd.own_blk (V_away HO0.out (fun _ hk => hk.1.2) L0_.out (by decide))) | (show (Addr.add _ _).block ≠ _; rw [add_block]; exact Kd.own_blk (V_away HO0.out (fun _ hk => hk.1.2) L0_.out (by decide))) | (dsimp only; exact Kd.own_blk (V_away HO0.out (fun _ hk => hk.1.2) L0_.out (by decide)))) _).trans (((cell_far (p := ⟨gb149, _, none⟩) (by first | exact Kd.own_blk (V_away HO0.out (fun _ hk => hk.1.2) L0_.out (by decide)) | (rw [add_block]; exact Kd.own_blk (V_away HO0.out (fun _ hk => hk.1.2) L0_.out (by decide))) | (show (Addr.add _ _).block ≠ _; rw [add_block]; exact Kd.own_blk (V_away HO0.out (fun _ hk => hk.1.2) L0_.out (by decide))) | (dsimp only; exact Kd.own_blk (V_away HO0.out (fun _ hk => hk.1.2) L0_.out (by decide)))) _).trans (hHeld.2.2.2.2.2.2.2.1)))))))))))))))))))))))), ((cell_far (p := ⟨gb149, _, none⟩) (by first | exact Kd.own_blk (V_away HO0.out (fun _ hk => hk.1.2) L0_.out (by decide)) | (rw [add_block]; exact Kd.own_blk (V_away HO0.out (fun _ hk => hk.1.2) L0_.out (by decide))) | (show (Addr.add _ _).block ≠ _; rw [add_block]; exact Kd.own_blk (V_away HO0.out (fun _ hk => hk.1.2) L0_.out (by decide))) | (dsimp only; exact Kd.own_blk (V_away HO0.out (fun _ hk => hk.1.2) L0_.out (by decide)))) _).trans (((cell_far (p := ⟨gb149, _, none⟩) (by first | exact Kd.own_blk (V_away HO0.out (fun _ hk => hk.1.2) L0_.out (by decide)) | (rw [add_block]; exact Kd.own_blk (V_away HO0.out (fun _ hk => hk.1.2) L0_.out (by decide))) | (show (Addr.add _ _).block ≠ _; rw [add_block]; exact Kd.own_blk (V_away HO0.out (fun _ hk => hk.1.2) L0_.out (by decide))) | (dsimp only; exact Kd.own_blk (V_away HO0.out (fun _ hk => hk.1.2) L0_.out (by decide)))) _).trans (((cell_far (p := ⟨gb149, _, none⟩) (by first | exact Kd.own_blk (V_away HO0.out (fun _ hk => hk.1.2) L0_.out (by decide)) | (rw [add_block]; exact Kd.own_blk (V_away HO0.out (fun _ hk => hk.1.2) L0_.out (by decide))) | (show (Addr.add _ _).block ≠ _; rw [add_block]; exact Kd.own_blk (V_away HO0.out (fun _ hk => hk.1.2) L0_.out (by decide))) | (dsimp only; exact Kd.own_blk (V_away HO0.out (fun _ hk => hk.1.2) L0_.out (by decide)))) _).trans (((cell_far (p := ⟨gb149, _, none⟩) (by first | exact Kd.own_blk (V_away HO0.out (fun _ hk => hk.1.2) L0_.out (by decide)) | (rw [add_block]; exact Kd.own_blk (V_away HO0.out (fun _ hk => hk.1.2) L0_.out (by decide))) | (show (Addr.add _ _).block ≠ _; rw [add_block]; exact Kd.own_blk (V_away HO0.out (fun _ hk => hk.1.2) L0_.out (by decide))) | (dsimp only; exact Kd.own_blk (V_away HO0.out (fun _ hk => hk.1.2) L0_.out (by decide)))) _).trans (((cell_far (p := ⟨gb149, _, none⟩) (by first | exact Kd.own_blk (V_away HO0.out (fun _ hk => hk.1.2) L0_.out (by decide)) | (rw [add_block]; exact Kd.own_blk (V_away HO0.out (fun _ hk => hk.1.2) L0_.out (by decide))) | (show (Addr.add _ _).block ≠ _; rw [add_block]; exact Kd.own_blk (V_away HO0.out (fun _ hk => hk.1.2) L0_.out (by decide))) | (dsimp only; exact Kd.own_blk (V_away HO0.out (fun _ hk => hk.1.2) L0_.out (by decide)))) _).trans (((cell_far (p := ⟨gb149, _, none⟩) (by first | exact Kd.own_blk (V_away HO0.out (fun _ hk => hk.1.2) L0_.out (by decide)) | (rw [add_block]; exact Kd.own_blk (V_away HO0.out (fun _ hk => hk.1.2) L0_.out (by decide))) | (show (Addr.add _ _).block ≠ _; rw [add_block]; exact Kd.own_blk (V_away HO0.out (fun _ hk => hk.1.2) L0_.out (by decide))) | (dsimp only; exact Kd.own_blk (V_away HO0.out (fun _ hk => hk.1.2) L0_.out (by decide)))) _).trans (((cell_far (p := ⟨gb149, _, none⟩) (by first | exact Kd.own_blk (V_away HO0.out (fun _ hk => hk.1.2) L0_.out (by decide)) | (rw [add_block]; exact Kd.own_blk (V_away HO0.out (fun _ hk => hk.1.2) L0_.out (by decide))) | (show (Addr.add _ _).block ≠ _; rw [add_block]; exact Kd.own_blk (V_away HO0.out (fun _ hk => hk.1.2) L0_.out (by decide))) | (dsimp only; exact Kd.own_blk (V_away HO0.out (fun _ hk => hk.1.2) L0_.out (by decide)))) _).trans (((cell_far (p := ⟨gb149, _, none⟩) (by first | exact Kd.own_blk (V_away HO0.out (fun _ hk => hk.1.2) L0_.out (by decide)) | (rw [add_block]; exact Kd.own_blk (V_away HO0.out (fun _ hk => hk.1.2) L0_.out (by decide))) | (show (Addr.add _ _).block ≠ _; rw [add_block]; exact Kd.own_blk (V_away HO0.out (fun _ hk => hk.1.2) L0_.out (by decide))) | (dsimp only; exact Kd.own_blk (V_away HO0.out (fun _ hk => hk.1.2) L0_.out (by decide)))) _).trans (((cell_far (p := ⟨gb149, _, none⟩) (by first | exact Kd.own_blk (V_away HO0.out (fun _ hk => hk.1.2) L0_.out (by decide)) | (rw [add_block]; exact Kd.own_blk (V_away HO0.out (fun _ hk => hk.1.2) L0_.out (by decide))) | (show (Addr.add _ _).block ≠ _; rw [add_block]; exact Kd.own_blk (V_away HO0.out (fun _ hk => hk.1.2) L0_.out (by decide))) | (dsimp only; exact Kd.own_blk (V_away HO0.out (fun _ hk => hk.1.2) L0_.out (by decide)))) _).trans (((cell_far (p := ⟨gb149, _, none⟩) (by first | exact Kd.own_blk (V_away HO0.out (fun _ hk => hk.1.2) L0_.out (by decide)) | (rw [add_block]; exact Kd.own_blk (V_away HO0.out (fun _ hk => hk.1.2) L0_.out (by decide))) | (show (Addr.add _ _).block ≠ _; rw [add_block]; exact Kd.own_blk (V_away HO0.out (fun _ hk => hk.1.2) L0_.out (by decide))) | (dsimp only; exact Kd.own_blk (V_away HO0.out (fun _ hk => hk.1.2) L0_.out (by decide)))) _).trans (((cell_far (p := ⟨gb149, _, none⟩) (by first | exact Kd.own_blk (V_away HO0.out (fun _ hk => hk.1.2) L0_.out (by decide)) | (rw [add_block]; exact Kd.own_blk (V_away HO0.out (fun _ hk => hk.1.2) L0_.out (by decide))) | (show (Addr.add _ _).block ≠ _; rw [add_block]; exact Kd.own_blk (V_away HO0.out (fun _ hk => hk.1.2) L0_.out (by decide))) | (dsimp only; exact Kd.own_blk (V_away HO0.out (fun _ hk => hk.1.2) L0_.out (by decide)))) _).trans (((cell_far (p := ⟨gb149, _, none⟩) (by first | exact Kd.own_blk (V_away HO0.out (fun _ hk => hk.1.2) L0_.out (by decide)) | (rw [add_block]; exact Kd.own_blk (V_away HO0.out (fun _ hk => hk.1.2) L0_.out (by decide))) | (show (Addr.add _ _).block ≠ _; rw [add_block]; exact Kd.own_blk (V_away HO0.out (fun _ hk => hk.1.2) L0_.out (by decide))) | (dsimp only; exact Kd.own_blk (V_away HO0.out (fun _ hk => hk.1.2) L0_.out (by decide)))) _).trans (hHeld.2.2.2.2.2.2.2.2.1)))))))))))))))))))))))), ((cell_far (p := ⟨gb149, _, none⟩) (by first | exact Kd.own_blk (V_away HO0.out (fun _ hk => hk.1.2) L0_.out (by decide)) | (rw [add_block]; exact Kd.own_blk (V_away HO0.out (fun _ hk => hk.1.2) L0_.out (by decide))) | (show (Addr.add _ _).block ≠ _; rw [add_block]; exact Kd.own_blk (V_away HO0.out (fun _ hk => hk.1.2) L0_.out (by decide))) | (dsimp only; exact Kd.own_blk (V_away HO0.out (fun _ hk => hk.1.2) L0_.out (by decide)))) _).trans (((cell_far (p := ⟨gb149, _, none⟩) (by first | exact Kd.own_blk (V_away HO0.out (fun _ hk => hk.1.2) L0_.out (by decide)) | (rw [add_block]; exact Kd.own_blk (V_away HO0.out (fun _ hk => hk.1.2) L0_.out (by decide))) | (show (Addr.add _ _).block ≠ _; rw [add_block]; exact Kd.own_blk (V_away HO0.out (fun _ hk => hk.1.2) L0_.out (by decide))) | (dsimp only; exact Kd.own_blk (V_away HO0.out (fun _ hk => hk.1.2) L0_.out (by decide)))) _).trans (((cell_far (p := ⟨gb149, _, none⟩) (by first | exact Kd.own_blk (V_away HO0.out (fun _ hk => hk.1.2) L0_.out (by decide)) | (rw [add_block]; exact Kd.own_blk (V_away HO0.out (fun _ hk => hk.1.2) L0_.out (by decide))) | (show (Addr.add _ _).block ≠ _; rw [add_block]; exact Kd.own_blk (V_away HO0.out (fun _ hk => hk.1.2) L0_.out (by decide))) | (dsimp only; exact Kd.own_blk (V_away HO0.out (fun _ hk => hk.1.2) L0_.out (by decide)))) _).trans (((cell_far (p := ⟨gb149, _, none⟩) (by first | exact Kd.own_blk (V_away HO0.out (fun _ hk => hk.1.2) L0_.out (by decide)) | (rw [add_block]; exact Kd.own_blk (V_away HO0.out (fun _ hk => hk.1.2) L0_.out (by decide))) | (show (Addr.add _ _).block ≠ _; rw [add_block]; exact Kd.own_blk (V_away HO0.out (fun _ hk => hk.1.2) L0_.out (by decide))) | (dsimp only; exact Kd.own_blk (V_away HO0.out (fun _ hk => hk.1.2) L0_.out (by decide)))) _).trans (((cell_far (p := ⟨gb149, _, none⟩) (by first | exact Kd.own_blk (V_away HO0.out (fun _ hk => hk.1.2) L0_.out (by decide)) | (rw [add_block]; exact Kd.own_blk (V_away HO0.out (fun _ hk => hk.1.2) L0_.out (by decide))) | (show (Addr.add _ _).block ≠ _; rw [add_block]; exact Kd.own_blk (V_away HO0.out (fun _ hk => hk.1.2) L0_.out (by decide))) | (dsimp only; exact Kd.own_blk (V_away HO0.out (fun _ hk => hk.1.2) L0_.out (by decide)))) _).trans (((cell_far (p := ⟨gb149, _, none⟩) (by first | exact Kd.own_blk (V_away HO0.out (fun _ hk => hk.1.2) L0_.out (by decide)) | (rw [add_block]; exact Kd.own_blk (V_away HO0.out (fun _ hk => hk.1.2) L0_.out (by decide))) | (show (Addr.add _ _).block ≠ _; rw [add_block]; exact Kd.own_blk (V_away HO0.out (fun _ hk => hk.1.2) L0_.out (by decide))) | (dsimp only; exact Kd.own_blk (V_away HO0.out (fun _ hk => hk.1.2) L0_.out (by decide)))) _).trans (((cell_far (p := ⟨gb149, _, none⟩) (by first | exact Kd.own_blk (V_away HO0.out (fun _ hk => hk.1.2) L0_.out (by decide)) | (rw [add_block]; exact Kd.own_blk (V_away HO0.out (fun _ hk => hk.1.2) L0_.out (by decide))) | (show (Addr.add _ _).block ≠ _; rw [add_block]; exact Kd.own_blk (V_away HO0.out (fun _ hk => hk.1.2) L0_.out (by decide))) | (dsimp only; exact Kd.own_blk (V_away HO0.out (fun _ hk => hk.1.2) L0_.out (by decide)))) _).trans (((cell_far (p := ⟨gb149, _, none⟩) (by first | exact Kd.own_blk (V_away HO0.out (fun _ hk => hk.1.2) L0_.out (by decide)) | (rw [add_block]; exact Kd.own_blk (V_away HO0.out (fun _ hk => hk.1.2) L0_.out (by decide))) | (show (Addr.add _ _).block ≠ _; rw [add_block]; exact Kd.own_blk (V_away HO0.out (fun _ hk => hk.1.2) L0_.out (by decide))) | (dsimp only; exact Kd.own_blk (V_away HO0.out (fun _ hk => hk.1.2) L0_.out (by decide)))) _).trans (((cell_far (p := ⟨gb149, _, none⟩) (by first | exact Kd.own_blk (V_away HO0.out (fun _ hk => hk.1.2) L0_.out (by decide)) | (rw [add_block]; exact Kd.own_blk (V_away HO0.out (fun _ hk => hk.1.2) L0_.out (by decide))) | (show (Addr.add _ _).block ≠ _; rw [add_block]; exact Kd.own_blk (V_away HO0.out (fun _ hk => hk.1.2) L0_.out (by decide))) | (dsimp only; exact Kd.own_blk (V_away HO0.out (fun _ hk => hk.1.2) L0_.out (by decide)))) _).trans (((cell_far (p := ⟨gb149, _, none⟩) (by first | exact Kd.own_blk (V_away HO0.out (fun _ hk => hk.1.2) L0_.out (by decide)) | (rw [add_block]; exact Kd.own_blk (V_away HO0.out (fun _ hk => hk.1.2) L0_.out (by decide))) | (show (Addr.add _ _).block ≠ _; rw [add_block]; exact Kd.own_blk (V_away HO0.out (fun _ hk => hk.1.2) L0_.out (by decide))) | (dsimp only; exact Kd.own_blk (V_away HO0.out (fun _ hk => hk.1.2) L0_.out (by decide)))) _).trans (((cell_far (p := ⟨gb149, _, none⟩) (by first | exact Kd.own_blk (V_away HO0.out (fun _ hk => hk.1.2) L0_.out (by decide)) | (rw [add_block]; exact Kd.own_blk (V_away HO0.out (fun _ hk => hk.1.2) L0_.out (by decide))) | (show (Addr.add _ _).block ≠ _; rw [add_block]; exact Kd.own_blk (V_away HO0.out (fun _ hk => hk.1.2) L0_.out (by decide))) | (dsimp only; exact Kd.own_blk (V_away HO0.out (fun _ hk => hk.1.2) L0_.out (by decide)))) _).trans (((cell_far (p := ⟨gb149, _, none⟩) (by first | exact Kd.own_blk (V_away HO0.out (fun _ hk => hk.1.2) L0_.out (by decide)) | (rw [add_block]; exact Kd.own_blk (V_away HO0.out (fun _ hk => hk.1.2) L0_.out (by decide))) | (show (Addr.add _ _).block ≠ _; rw [add_block]; exact Kd.own_blk (V_away HO0.out (fun _ hk => hk.1.2) L0_.out (by decide))) | (dsimp only; exact Kd.own_blk (V_away HO0.out (fun _ hk => hk.1.2) L0_.out (by decide)))) _).trans (hHeld.2.2.2.2.2.2.2.2.2.1)))))))))))))))))))))))), ((cell_far (p := ⟨gb149, _, none⟩) (by first | exact Kd.own_blk (V_away HO0.out (fun _ hk => hk.1.2) L0_.out (by decide)) | (rw [add_block]; exact Kd.own_blk (V_away HO0.out (fun _ hk => hk.1.2) L0_.out (by decide))) | (show (Addr.add _ _).block ≠ _; rw [add_block]; exact Kd.own_blk (V_away HO0.out (fun _ hk => hk.1.2) L0_.out (by decide))) | (dsimp only; exact Kd.own_blk (V_away HO0.out (fun _ hk => hk.1.2) L0_.out (by decide)))) _).trans (((cell_far (p := ⟨gb149, _, none⟩) (by first | exact Kd.own_blk (V_away HO0.out (fun _ hk => hk.1.2) L0_.out (by decide)) | (rw [add_block]; exact Kd.own_blk (V_away HO0.out (fun _ hk => hk.1.2) L0_.out (by decide))) | (show (Addr.add _ _).block ≠ _; rw [add_block]; exact Kd.own_blk (V_away HO0.out (fun _ hk => hk.1.2) L0_.out (by decide))) | (dsimp only; exact Kd.own_blk (V_away HO0.out (fun _ hk => hk.1.2) L0_.out (by decide)))) _).trans (((cell_far (p := ⟨gb149, _, none⟩) (by first | exact Kd.own_blk (V_away HO0.out (fun _ hk => hk.1.2) L0_.out (by decide)) | (rw [add_block]; exact Kd.own_blk (V_away HO0.out (fun _ hk => hk.1.2) L0_.out (by decide))) | (show (Addr.add _ _).block ≠ _; rw [add_block]; exact Kd.own_blk (V_away HO0.out (fun _ hk => hk.1.2) L0_.out (by decide))) | (dsimp only; exact Kd.own_blk (V_away HO0.out (fun _ hk => hk.1.2) L0_.out (by decide)))) _).trans (((cell_far (p := ⟨gb149, _, none⟩) (by first | exact Kd.own_blk (V_away HO0.out (fun _ hk => hk.1.2) L0_.out (by decide)) | (rw [add_block]; exact Kd.own_blk (V_away HO0.out (fun _ hk => hk.1.2) L0_.out (by decide))) | (show (Addr.add _ _).block ≠ _; rw [add_block]; exact Kd.own_blk (V_away HO0.out (fun _ hk => hk.1.2) L0_.out (by decide))) | (dsimp only; exact Kd.own_blk (V_away HO0.out (fun _ hk => hk.1.2) L0_.out (by decide)))) _).trans (((cell_far (p := ⟨gb149, _, none⟩) (by first | exact Kd.own_blk (V_away HO0.out (fun _ hk => hk.1.2) L0_.out (by decide)) | (rw [add_block]; exact Kd.own_blk (V_away HO0.out (fun _ hk => hk.1.2) L0_.out (by decide))) | (show (Addr.add _ _).block ≠ _; rw [add_block]; exact Kd.own_blk (V_away HO0.out (fun _ hk => hk.1.2) L0_.out (by decide))) | (dsimp only; exact Kd.own_blk (V_away HO0.out (fun _ hk => hk.1.2) L0_.out (by decide)))) _).trans (((cell_far (p := ⟨gb149, _, none⟩) (by first | exact Kd.own_blk (V_away HO0.out (fun _ hk => hk.1.2) L0_.out (by decide)) | (rw [add_block]; exact Kd.own_blk (V_away HO0.out (fun _ hk => hk.1.2) L0_.out (by decide))) | (show (Addr.add _ _).block ≠ _; rw [add_block]; exact Kd.own_blk (V_away HO0.out (fun _ hk => hk.1.2) L0_.out (by decide))) | (dsimp only; exact Kd.own_blk (V_away HO0.out (fun _ hk => hk.1.2) L0_.out (by decide)))) _).trans (((cell_far (p := ⟨gb149, _, none⟩) (by first | exact Kd.own_blk (V_away HO0.out (fun _ hk => hk.1.2) L0_.out (by decide)) | (rw [add_block]; exact Kd.own_blk (V_away HO0.out (fun _ hk => hk.1.2) L0_.out (by decide))) | (show (Addr.add _ _).block ≠ _; rw [add_block]; exact Kd.own_blk (V_away HO0.out (fun _ hk => hk.1.2) L0_.out (by decide))) | (dsimp only; exact Kd.own_blk (V_away HO0.out (fun _ hk => hk.1.2) L0_.out (by decide)))) _).trans (((cell_far (p := ⟨gb149, _, none⟩) (by first | exact Kd.own_blk (V_away HO0.out (fun _ hk => hk.1.2) L0_.out (by decide)) | (rw [add_block]; exact Kd.own_blk (V_away HO0.out (fun _ hk => hk.1.2) L0_.out (by decide))) | (show (Addr.add _ _).block ≠ _; rw [add_block]; exact Kd.own_blk (V_away HO0.out (fun _ hk => hk.1.2) L0_.out (by decide))) | (dsimp only; exact Kd.own_blk (V_away HO0.out (fun _ hk => hk.1.2) L0_.out (by decide)))) _).trans (((cell_far (p := ⟨gb149, _, none⟩) (by first | exact Kd.own_blk (V_away HO0.out (fun _ hk => hk.1.2) L0_.out (by decide)) | (rw [add_block]; exact Kd.own_blk (V_away HO0.out (fun _ hk => hk.1.2) L0_.out (by decide))) | (show (Addr.add _ _).block ≠ _; rw [add_block]; exact Kd.own_blk (V_away HO0.out (fun _ hk => hk.1.2) L0_.out (by decide))) | (dsimp only; exact Kd.own_blk (V_away HO0.out (fun _ hk => hk.1.2) L0_.out (by decide)))) _).trans (((cell_far (p := ⟨gb149, _, none⟩) (by first | exact Kd.own_blk (V_away HO0.out (fun _ hk => hk.1.2) L0_.out (by decide)) | (rw [add_block]; exact Kd.own_blk (V_away HO0.out (fun _ hk => hk.1.2) L0_.out (by decide))) | (show (Addr.add _ _).block ≠ _; rw [add_block]; exact Kd.own_blk (V_away HO0.out (fun _ hk => hk.1.2) L0_.out (by decide))) | (dsimp only; exact Kd.own_blk (V_away HO0.out (fun _ hk => hk.1.2) L0_.out (by decide)))) _).trans (((cell_far (p := ⟨gb149, _, none⟩) (by first | exact Kd.own_blk (V_away HO0.out (fun _ hk => hk.1.2) L0_.out (by decide)) | (rw [add_block]; exact Kd.own_blk (V_away HO0.out (fun _ hk => hk.1.2) L0_.out (by decide))) | (show (Addr.add _ _).block ≠ _; rw [add_block]; exact Kd.own_blk (V_away HO0.out (fun _ hk => hk.1.2) L0_.out (by decide))) | (dsimp only; exact Kd.own_blk (V_away HO0.out (fun _ hk => hk.1.2) L0_.out (by decide)))) _).trans (((cell_far (p := ⟨gb149, _, none⟩) (by first | exact Kd.own_blk (V_away HO0.out (fun _ hk => hk.1.2) L0_.out (by decide)) | (rw [add_block]; exact Kd.own_blk (V_away HO0.out (fun _ hk => hk.1.2) L0_.out (by decide))) | (show (Addr.add _ _).block ≠ _; rw [add_block]; exact Kd.own_blk (V_away HO0.out (fun _ hk => hk.1.2) L0_.out (by decide))) | (dsimp only; exact Kd.own_blk (V_away HO0.out (fun _ hk => hk.1.2) L0_.out (by decide)))) _).trans (hHeld.2.2.2.2.2.2.2.2.2.2.1)))))))))))))))))))))))), ((cell_far (p := ⟨gb149, _, none⟩) (by first | exact Kd.own_blk (V_away HO0.out (fun _ hk => hk.1.2) L0_.out (by decide)) | (rw [add_block]; exact Kd.own_blk (V_away HO0.out (fun _ hk => hk.1.2) L0_.out (by decide))) | (show (Addr.add _ _).block ≠ _; rw [add_block]; exact Kd.own_blk (V_away HO0.out (fun _ hk => hk.1.2) L0_.out (by decide))) | (dsimp only; exact Kd.own_blk (V_away HO0.out (fun _ hk => hk.1.2) L0_.out (by decide)))) _).trans (((cell_far (p := ⟨gb149, _, none⟩) (by first | exact Kd.own_blk (V_away HO0.out (fun _ hk => hk.1.2) L0_.out (by decide)) | (rw [add_block]; exact Kd.own_blk (V_away HO0.out (fun _ hk => hk.1.2) L0_.out (by decide))) | (show (Addr.add _ _).block ≠ _; rw [add_block]; exact Kd.own_blk (V_away HO0.out (fun _ hk => hk.1.2) L0_.out (by decide))) | (dsimp only; exact Kd.own_blk (V_away HO0.out (fun _ hk => hk.1.2) L0_.out (by decide)))) _).trans (((cell_far (p := ⟨gb149, _, none⟩) (by first | exact Kd.own_blk (V_away HO0.out (fun _ hk => hk.1.2) L0_.out (by decide)) | (rw [add_block]; exact Kd.own_blk (V_away HO0.out (fun _ hk => hk.1.2) L0_.out (by decide))) | (show (Addr.add _ _).block ≠ _; rw [add_block]; exact Kd.own_blk (V_away HO0.out (fun _ hk => hk.1.2) L0_.out (by decide))) | (dsimp only; exact Kd.own_blk (V_away HO0.out (fun _ hk => hk.1.2) L0_.out (by decide)))) _).trans (((cell_far (p := ⟨gb149, _, none⟩) (by first | exact Kd.own_blk (V_away HO0.out (fun _ hk => hk.1.2) L0_.out (by decide)) | (rw [add_block]; exact Kd.own_blk (V_away HO0.out (fun _ hk => hk.1.2) L0_.out (by decide))) | (show (Addr.add _ _).block ≠ _; rw [add_block]; exact Kd.own_blk (V_away HO0.out (fun _ hk => hk.1.2) L0_.out (by decide))) | (dsimp only; exact Kd.own_blk (V_away HO0.out (fun _ hk => hk.1.2) L0_.out (by decide)))) _).trans (((cell_far (p := ⟨gb149, _, none⟩) (by first | exact Kd.own_blk (V_away HO0.out (fun _ hk => hk.1.2) L0_.out (by decide)) | (rw [add_block]; exact Kd.own_blk (V_away HO0.out (fun _ hk => hk.1.2) L0_.out (by decide))) | (show (Addr.add _ _).block ≠ _; rw [add_block]; exact Kd.own_blk (V_away HO0.out (fun _ hk => hk.1.2) L0_.out (by decide))) | (dsimp only; exact Kd.own_blk (V_away HO0.out (fun _ hk => hk.1.2) L0_.out (by decide)))) _).trans (((cell_far (p := ⟨gb149, _, none⟩) (by first | exact Kd.own_blk (V_away HO0.out (fun _ hk => hk.1.2) L0_.out (by decide)) | (rw [add_block]; exact Kd.own_blk (V_away HO0.out (fun _ hk => hk.1.2) L0_.out (by decide))) | (show (Addr.add _ _).block ≠ _; rw [add_block]; exact Kd.own_blk (V_away HO0.out (fun _ hk => hk.1.2) L0_.out (by decide))) | (dsimp only; exact Kd.own_blk (V_away HO0.out (fun _ hk => hk.1.2) L0_.out (by decide)))) _).trans (((cell_far (p := ⟨gb149, _, none⟩) (by first | exact Kd.own_blk (V_away HO0.out (fun _ hk => hk.1.2) L0_.out (by decide)) | (rw [add_block]; exact Kd.own_blk (V_away HO0.out (fun _ hk => hk.1.2) L0_.out (by decide))) | (show (Addr.add _ _).block ≠ _; rw [add_block]; exact Kd.own_blk (V_away HO0.out (fun _ hk => hk.1.2) L0_.out (by decide))) | (dsimp only; exact Kd.own_blk (V_away HO0.out (fun _ hk => hk.1.2) L0_.out (by decide)))) _).trans (((cell_far (p := ⟨gb149, _, none⟩) (by first | exact Kd.own_blk (V_away HO0.out (fun _ hk => hk.1.2) L0_.out (by decide)) | (rw [add_block]; exact Kd.own_blk (V_away HO0.out (fun _ hk => hk.1.2) L0_.out (by decide))) | (show (Addr.add _ _).block ≠ _; rw [add_block]; exact Kd.own_blk (V_away HO0.out (fun _ hk => hk.1.2) L0_.out (by decide))) | (dsimp only; exact Kd.own_blk (V_away HO0.out (fun _ hk => hk.1.2) L0_.out (by decide)))) _).trans (((cell_far (p := ⟨gb149, _, none⟩) (by first | exact Kd.own_blk (V_away HO0.out (fun _ hk => hk.1.2) L0_.out (by decide)) | (rw [add_block]; exact Kd.own_blk (V_away HO0.out (fun _ hk => hk.1.2) L0_.out (by decide))) | (show (Addr.add _ _).block ≠ _; rw [add_block]; exact Kd.own_blk (V_away HO0.out (fun _ hk => hk.1.2) L0_.out (by decide))) | (dsimp only; exact Kd.own_blk (V_away HO0.out (fun _ hk => hk.1.2) L0_.out (by decide)))) _).trans (((cell_far (p := ⟨gb149, _, none⟩) (by first | exact Kd.own_blk (V_away HO0.out (fun _ hk => hk.1.2) L0_.out (by decide)) | (rw [add_block]; exact Kd.own_blk (V_away HO0.out (fun _ hk => hk.1.2) L0_.out (by decide))) | (show (Addr.add _ _).block ≠ _; rw [add_block]; exact Kd.own_blk (V_away HO0.out (fun _ hk => hk.1.2) L0_.out (by decide))) | (dsimp only; exact Kd.own_blk (V_away HO0.out (fun _ hk => hk.1.2) L0_.out (by decide)))) _).trans (((cell_far (p := ⟨gb149, _, none⟩) (by first | exact Kd.own_blk (V_away HO0.out (fun _ hk => hk.1.2) L0_.out (by decide)) | (rw [add_block]; exact Kd.own_blk (V_away HO0.out (fun _ hk => hk.1.2) L0_.out (by decide))) | (show (Addr.add _ _).block ≠ _; rw [add_block]; exact Kd.own_blk (V_away HO0.out (fun _ hk => hk.1.2) L0_.out (by decide))) | (dsimp only; exact Kd.own_blk (V_away HO0.out (fun _ hk => hk.1.2) L0_.out (by decide)))) _).trans (((cell_far (p := ⟨gb149, _, none⟩) (by first | exact Kd.own_blk (V_away HO0.out (fun _ hk => hk.1.2) L0_.out (by decide)) | (rw [add_block]; exact Kd.own_blk (V_away HO0.out (fun _ hk => hk.1.2) L0_.out (by decide))) | (show (Addr.add _ _).block ≠ _; rw [add_block]; exact Kd.own_blk (V_away HO0.out (fun _ hk => hk.1.2) L0_.out (by decide))) | (dsimp only; exact Kd.own_blk (V_away HO0.out (fun _ hk => hk.1.2) L0_.out (by decide)))) _).trans (hHeld.2.2.2.2.2.2.2.2.2.2.2))))))))))))))))))))))))⟩ (fun hHeld => ?_)
        clear hK K
        refine pure_ (i := 8) (N := some 5) (v := ?_) (a' := ?_) #[true, true, true, true, true, true, true, true, true, false] rfl rfl (any_of HT_.out (by kernel_rfl)) (fun _ _ _ h => h) (Or.inl ⟨by rfl, ?_⟩) ?_ ?_
        rotate_left
        · intro w'
          go_simp
          with_reducible rfl
        rotate_left
        · simp only [Act.put, List.setIfInBounds_toArray, List.set_cons_zero, List.set_cons_succ, i64_w, i32_w]
          rfl
        refine pure_ (i := 9) (N := some 6) (v := ?_) (a' := ?_) #[true, true, true, true, true, true, true, true, true, true] rfl rfl (any_of HT_.out (by kernel_rfl)) (fun _ _ _ h => h) (Or.inl ⟨by rfl, ?_⟩) ?_ ?_
        rotate_left
        · intro w'
          go_simp
          with_reducible rfl
        rotate_left
        · simp only [Act.put, List.setIfInBounds_toArray, List.set_cons_zero, List.set_cons_succ, i64_w, i32_w]
          rfl
        refine done_ (done_of HT_.out (by kernel_rfl)) ?_
        try go_wp2
        refine bodyPost_ret (results_ctt rfl _ _ gb149 32 #[.int .i64 ((rd_T32 l0 a1).f0), .int .i64 ((rd_T32 l0 a1).f1), .int .i64 ((rd_T32 l0 a1).f2), .int .i64 ((rd_T32 l0 a1).f3), .int .i64 ((rd_T32 l0 a1).f4), .int .i64 ((rd_T32 l0 a1).f5), .int .u64 ((rd_T32 l0 a1).f6), .int .i64 ((rd_T32 l0 a1).f7.f0), .int .i64 ((rd_T32 l0 a1).f7.f1), .int .i64 ((rd_T32 l0 a1).f7.f2), .slice A151_10 ((rd_T32 l0 a1).f7.f3).length c151_10, .string ((rd_T32 l0 a1).f8)] (0, 0) _ rfl (by (with_reducible repeat (first | refine blk_drewN ?_ _ | refine blk_drew ?_ | refine blk_alloc ?_ _)); refine blk_put (cs := #[.int .i64 ((rd_T32 l0 a1).f0), .int .i64 ((rd_T32 l0 a1).f1), .int .i64 ((rd_T32 l0 a1).f2), .int .i64 ((rd_T32 l0 a1).f3), .int .i64 ((rd_T32 l0 a1).f4), .int .i64 ((rd_T32 l0 a1).f5), .int .u64 ((rd_T32 l0 a1).f6), .int .i64 ((rd_T32 l0 a1).f7.f0), .int .i64 ((rd_T32 l0 a1).f7.f1), .int .i64 ((rd_T32 l0 a1).f7.f2), .slice A151_10 ((rd_T32 l0 a1).f7.f3).length c151_10, .string (⟨#[]⟩ : ByteArray)]) ?_ 11 _ rfl; (with_reducible repeat (first | refine blk_drewN ?_ _ | refine blk_drew ?_ | refine blk_alloc ?_ _)); refine blk_put (cs := #[.int .i64 ((rd_T32 l0 a1).f0), .int .i64 ((rd_T32 l0 a1).f1), .int .i64 ((rd_T32 l0 a1).f2), .int .i64 ((rd_T32 l0 a1).f3), .int .i64 ((rd_T32 l0 a1).f4), .int .i64 ((rd_T32 l0 a1).f5), .int .u64 ((rd_T32 l0 a1).f6), .int .i64 ((rd_T32 l0 a1).f7.f0), .int .i64 ((rd_T32 l0 a1).f7.f1), .int .i64 ((rd_T32 l0 a1).f7.f2), .slice none 0 0, .string (⟨#[]⟩ : ByteArray)]) ?_ 10 _ rfl; (with_reducible repeat (first | refine blk_drewN ?_ _ | refine blk_drew ?_ | refine blk_alloc ?_ _)); refine blk_put (cs := #[.int .i64 ((rd_T32 l0 a1).f0), .int .i64 ((rd_T32 l0 a1).f1), .int .i64 ((rd_T32 l0 a1).f2), .int .i64 ((rd_T32 l0 a1).f3), .int .i64 ((rd_T32 l0 a1).f4), .int .i64 ((rd_T32 l0 a1).f5), .int .u64 ((rd_T32 l0 a1).f6), .int .i64 ((rd_T32 l0 a1).f7.f0), .int .i64 ((rd_T32 l0 a1).f7.f1), .int .i64 0, .slice none 0 0, .string (⟨#[]⟩ : ByteArray)]) ?_ 9 _ rfl; (with_reducible repeat (first | refine blk_drewN ?_ _ | refine blk_drew ?_ | refine blk_alloc ?_ _)); refine blk_put (cs := #[.int .i64 ((rd_T32 l0 a1).f0), .int .i64 ((rd_T32 l0 a1).f1), .int .i64 ((rd_T32 l0 a1).f2), .int .i64 ((rd_T32 l0 a1).f3), .int .i64 ((rd_T32 l0 a1).f4), .int .i64 ((rd_T32 l0 a1).f5), .int .u64 ((rd_T32 l0 a1).f6), .int .i64 ((rd_T32 l0 a1).f7.f0), .int .i64 0, .int .i64 0, .slice none 0 0, .string (⟨#[]⟩ : ByteArray)]) ?_ 8 _ rfl; (with_reducible repeat (first | refine blk_drewN ?_ _ | refine blk_drew ?_ | refine blk_alloc ?_ _)); refine blk_put (cs := #[.int .i64 ((rd_T32 l0 a1).f0), .int .i64 ((rd_T32 l0 a1).f1), .int .i64 ((rd_T32 l0 a1).f2), .int .i64 ((rd_T32 l0 a1).f3), .int .i64 ((rd_T32 l0 a1).f4), .int .i64 ((rd_T32 l0 a1).f5), .int .u64 ((rd_T32 l0 a1).f6), .int .i64 0, .int .i64 0, .int .i64 0, .slice none 0 0, .string (⟨#[]⟩ : ByteArray)]) ?_ 7 _ rfl; (with_reducible repeat (first | refine blk_drewN ?_ _ | refine blk_drew ?_ | refine blk_alloc ?_ _)); refine blk_put (cs := #[.int .i64 ((rd_T32 l0 a1).f0), .int .i64 ((rd_T32 l0 a1).f1), .int .i64 ((rd_T32 l0 a1).f2), .int .i64 ((rd_T32 l0 a1).f3), .int .i64 ((rd_T32 l0 a1).f4), .int .i64 ((rd_T32 l0 a1).f5), .int .u64 0, .int .i64 0, .int .i64 0, .int .i64 0, .slice none 0 0, .string (⟨#[]⟩ : ByteArray)]) ?_ 6 _ rfl; (with_reducible repeat (first | refine blk_drewN ?_ _ | refine blk_drew ?_ | refine blk_alloc ?_ _)); refine blk_put (cs := #[.int .i64 ((rd_T32 l0 a1).f0), .int .i64 ((rd_T32 l0 a1).f1), .int .i64 ((rd_T32 l0 a1).f2), .int .i64 ((rd_T32 l0 a1).f3), .int .i64 ((rd_T32 l0 a1).f4), .int .i64 0, .int .u64 0, .int .i64 0, .int .i64 0, .int .i64 0, .slice none 0 0, .string (⟨#[]⟩ : ByteArray)]) ?_ 5 _ rfl; (with_reducible repeat (first | refine blk_drewN ?_ _ | refine blk_drew ?_ | refine blk_alloc ?_ _)); refine blk_put (cs := #[.int .i64 ((rd_T32 l0 a1).f0), .int .i64 ((rd_T32 l0 a1).f1), .int .i64 ((rd_T32 l0 a1).f2), .int .i64 ((rd_T32 l0 a1).f3), .int .i64 0, .int .i64 0, .int .u64 0, .int .i64 0, .int .i64 0, .int .i64 0, .slice none 0 0, .string (⟨#[]⟩ : ByteArray)]) ?_ 4 _ rfl; (with_reducible repeat (first | refine blk_drewN ?_ _ | refine blk_drew ?_ | refine blk_alloc ?_ _)); refine blk_put (cs := #[.int .i64 ((rd_T32 l0 a1).f0), .int .i64 ((rd_T32 l0 a1).f1), .int .i64 ((rd_T32 l0 a1).f2), .int .i64 0, .int .i64 0, .int .i64 0, .int .u64 0, .int .i64 0, .int .i64 0, .int .i64 0, .slice none 0 0, .string (⟨#[]⟩ : ByteArray)]) ?_ 3 _ rfl; (with_reducible repeat (first | refine blk_drewN ?_ _ | refine blk_drew ?_ | refine blk_alloc ?_ _)); refine blk_put (cs := #[.int .i64 ((rd_T32 l0 a1).f0), .int .i64 ((rd_T32 l0 a1).f1), .int .i64 0, .int .i64 0, .int .i64 0, .int .i64 0, .int .u64 0, .int .i64 0, .int .i64 0, .int .i64 0, .slice none 0 0, .string (⟨#[]⟩ : ByteArray)]) ?_ 2 _ rfl; (with_reducible repeat (first | refine blk_drewN ?_ _ | refine blk_drew ?_ | refine blk_alloc ?_ _)); refine blk_put (cs := #[.int .i64 ((rd_T32 l0 a1).f0), .int .i64 0, .int .i64 0, .int .i64 0, .int .i64 0, .int .i64 0, .int .u64 0, .int .i64 0, .int .i64 0, .int .i64 0, .slice none 0 0, .string (⟨#[]⟩ : ByteArray)]) ?_ 1 _ rfl; (with_reducible repeat (first | refine blk_drewN ?_ _ | refine blk_drew ?_ | refine blk_alloc ?_ _)); refine blk_put (cs := #[.int .i64 0, .int .i64 0, .int .i64 0, .int .i64 0, .int .i64 0, .int .i64 0, .int .u64 0, .int .i64 0, .int .i64 0, .int .i64 0, .slice none 0 0, .string (⟨#[]⟩ : ByteArray)]) ?_ 0 _ rfl; (with_reducible repeat (first | refine blk_drewN ?_ _ | refine blk_drew ?_ | refine blk_alloc ?_ _)); exact BK149.out) Try.underlying32 rfl (by kernel_rfl)) rfl ?_
        exact ⟨_, _, by first | rfl | (simp [errW_none, errW_some] <;> rfl) | (simp [*, errW_none, errW_some] <;> rfl), by (with_reducible repeat (first | apply Kd.V_alloc | apply Kd.V_drewN | apply Kd.V_drew)); exact Kd.V_mono (Kd.V_far (p := ⟨gb149, 11, none⟩) (Kd.V_far (p := ⟨gb149, 10, none⟩) (Kd.V_far (p := ⟨gb149, 9, none⟩) (Kd.V_far (p := ⟨gb149, 8, none⟩) (Kd.V_far (p := ⟨gb149, 7, none⟩) (Kd.V_far (p := ⟨gb149, 6, none⟩) (Kd.V_far (p := ⟨gb149, 5, none⟩) (Kd.V_far (p := ⟨gb149, 4, none⟩) (Kd.V_far (p := ⟨gb149, 3, none⟩) (Kd.V_far (p := ⟨gb149, 2, none⟩) (Kd.V_far (p := ⟨gb149, 1, none⟩) (Kd.V_far (p := ⟨gb149, 0, none⟩) (Kd.V_mono HL151_10.out (fun k_ hk => (⟨hk, hk.1.2⟩ : _ ∧ k_ ≠ gb149))) (fun _ hk => hk.2) (.int .i64 ((rd_T32 l0 a1).f0))) (fun _ hk => hk.2) (.int .i64 ((rd_T32 l0 a1).f1))) (fun _ hk => hk.2) (.int .i64 ((rd_T32 l0 a1).f2))) (fun _ hk => hk.2) (.int .i64 ((rd_T32 l0 a1).f3))) (fun _ hk => hk.2) (.int .i64 ((rd_T32 l0 a1).f4))) (fun _ hk => hk.2) (.int .i64 ((rd_T32 l0 a1).f5))) (fun _ hk => hk.2) (.int .u64 ((rd_T32 l0 a1).f6))) (fun _ hk => hk.2) (.int .i64 ((rd_T32 l0 a1).f7.f0))) (fun _ hk => hk.2) (.int .i64 ((rd_T32 l0 a1).f7.f1))) (fun _ hk => hk.2) (.int .i64 ((rd_T32 l0 a1).f7.f2))) (fun _ hk => hk.2) (.slice A151_10 ((rd_T32 l0 a1).f7.f3).length c151_10)) (fun _ hk => hk.2) (.string ((rd_T32 l0 a1).f8))) (fun _ hk => ⟨hk.1.1.1, hk.1.2⟩), by (with_reducible repeat (first | apply Kd.N_alloc | apply Kd.N_drewN | apply Kd.N_drew)); exact Kd.N_mono (Kd.N_far (p := ⟨gb149, 11, none⟩) (Kd.N_far (p := ⟨gb149, 10, none⟩) (Kd.N_far (p := ⟨gb149, 9, none⟩) (Kd.N_far (p := ⟨gb149, 8, none⟩) (Kd.N_far (p := ⟨gb149, 7, none⟩) (Kd.N_far (p := ⟨gb149, 6, none⟩) (Kd.N_far (p := ⟨gb149, 5, none⟩) (Kd.N_far (p := ⟨gb149, 4, none⟩) (Kd.N_far (p := ⟨gb149, 3, none⟩) (Kd.N_far (p := ⟨gb149, 2, none⟩) (Kd.N_far (p := ⟨gb149, 1, none⟩) (Kd.N_far (p := ⟨gb149, 0, none⟩) (Kd.N_mono HO154.out (fun k_ hk => (⟨hk, hk.2⟩ : _ ∧ k_ ≠ gb149))) (fun _ hk => hk.2) (.int .i64 ((rd_T32 l0 a1).f0))) (fun _ hk => hk.2) (.int .i64 ((rd_T32 l0 a1).f1))) (fun _ hk => hk.2) (.int .i64 ((rd_T32 l0 a1).f2))) (fun _ hk => hk.2) (.int .i64 ((rd_T32 l0 a1).f3))) (fun _ hk => hk.2) (.int .i64 ((rd_T32 l0 a1).f4))) (fun _ hk => hk.2) (.int .i64 ((rd_T32 l0 a1).f5))) (fun _ hk => hk.2) (.int .u64 ((rd_T32 l0 a1).f6))) (fun _ hk => hk.2) (.int .i64 ((rd_T32 l0 a1).f7.f0))) (fun _ hk => hk.2) (.int .i64 ((rd_T32 l0 a1).f7.f1))) (fun _ hk => hk.2) (.int .i64 ((rd_T32 l0 a1).f7.f2))) (fun _ hk => hk.2) (.slice A151_10 ((rd_T32 l0 a1).f7.f3).length c151_10)) (fun _ hk => hk.2) (.string ((rd_T32 l0 a1).f8))) (fun _ hk => hk.1.1), by repeat (first | (with_reducible first | exact HB.out | apply below_alloc | apply pw_below_drewN | apply below_drew1 | refine below_set ?_ GE149.out) | exact HB.out)⟩
      · rw [if_neg c6] at H
        exact absurd H (by simp)
    · rw [if_neg c5] at H
      exact absurd H (by simp)
  · replace c4 := Bool.eq_false_iff.mpr c4
    subst c4
    have H1 : (some (0, 0, 0, 0, 0, 0, 0, 0, 0, 0, ([] : List (S49)), (⟨#[]⟩ : ByteArray), ([] : List (S32)), 8)) = some (r1, r2, r3, r4, r5, r6, r7, r8, r9, r10, r11, r12, r13, r14) := by rw [if_neg (show ¬ (false = true) by decide)] at H; exact H
    clear H
    have H := H1
    clear H1
    simp only [Option.some.injEq, Prod.mk.injEq] at H
    obtain ⟨rfl, rfl, rfl, rfl, rfl, rfl, rfl, rfl, rfl, rfl, rfl, rfl, rfl, rfl⟩ := H
    go_enter Try.func12, Try.ntmps12
    go_wp2_with (first | ((with_reducible refine gate_dst (N := 4) rfl ?_); refine box_event ?hg (N := 4) ?hd (cs := #[.int .i64 0, .int .i64 0, .int .i64 0, .int .i64 0, .int .i64 0, .int .i64 0, .int .u64 0, .int .i64 0, .int .i64 0, .int .i64 0, .slice none 0 0, .string (⟨#[]⟩ : ByteArray)]) (t := 32) ?hr ?_; (case hd => rfl); (case hg => rfl); (case hr => first | (go_simp; done) | (go_simp; rfl)); intro gb149 hg w23 hbox hb; have n0_ := Aside0.mk (Kd.V_below (Kd.V_elderB (by (with_reducible repeat (first | apply Kd.V_alloc | apply Kd.V_drewN | apply Kd.V_drew)); exact HO0.out) gb149 (Nat.le_of_eq hg.symm)) hb); have n1_ := Aside0.mk (below_step (by repeat (first | (with_reducible first | exact HB.out | apply below_alloc | apply pw_below_drewN | apply below_drew1) | exact HB.out)) hb); have n2_ := Aside0.mk (hbox); have n3_ := Aside0.mk ((by rw [hg]; exact (below_size (by repeat (first | (with_reducible first | exact HB.out | apply below_alloc | apply pw_below_drewN | apply below_drew1) | exact HB.out))) : w.heap.size ≤ gb149)); have n4_ := Aside0.mk ((by rw [hg]; exact (below_size (by repeat (first | (with_reducible first | exact HB.out | apply below_alloc | apply pw_below_drewN | apply below_drew1) | exact HB.out))) : w.heap.size ≤ gb149)); clear HO0; clear HB; have HO0 := n0_; have HB := n1_; have BK149 := n2_; have GW149 := n3_; have GE149 := n4_; clear n0_ n1_ n2_ n3_ n4_; clear hb hbox hg) | ((with_reducible refine gate_callee (f := 20) rfl ?_); refine goesL_ (some 9) rfl rfl Try.func20 (by kernel_rfl) rfl #[.slice A0 l0.length c0, .int .i64 a1] rfl (by (try simp only [List.map_toArray, List.map_cons, List.map_nil]); first | done | rfl | (simp only [List.length_drop, List.length_take]; rfl)) ?_; (with_reducible refine (net_has.calls _ _ l0 a1 false _ ?side1 ?side2 A3.out).mono ?_); (case side1 => repeat (first | exact (Kd.V_reads' HO0.out).2.2 | (with_reducible refine Kd.C_alloc ?_ _) | (with_reducible refine Kd.C_drewN ?_ _) | (with_reducible refine Kd.C_drew ?_))); (case side2 => exact (Kd.V_reads' HO0.out).2.1); rintro e w' ⟨rfl, ⟨nd, rfl⟩⟩; refine ⟨_, rfl, ?_⟩; (try (rw [drewN_self w23]; generalize hq_ : World.drewN w23 _ = w23; have n0_ : Aside0 (Kd.V k32 32 w23 w.heap.size (fun k_ => (P0_ k_ ∨ w.heap.size ≤ k_) ∧ k_ ≠ gb149) (.slice A0 l0.length c0) l0) := ⟨by rw [← hq_]; exact (by (with_reducible repeat (first | apply Kd.V_alloc | apply Kd.V_drewN | apply Kd.V_drew)); exact HO0.out)⟩; have n1_ : Aside0 (w23.heap[gb149]? = some (.cells #[.int .i64 0, .int .i64 0, .int .i64 0, .int .i64 0, .int .i64 0, .int .i64 0, .int .u64 0, .int .i64 0, .int .i64 0, .int .i64 0, .slice none 0 0, .string (⟨#[]⟩ : ByteArray)] 32 (0, 0))) := ⟨by rw [← hq_]; exact (by (with_reducible repeat (first | refine blk_drewN ?_ _ | refine blk_drew ?_ | refine blk_alloc ?_ _)); exact BK149.out)⟩; have n2_ : Aside0 (Below w.heap.size w w23) := ⟨by rw [← hq_]; exact (by repeat (first | (with_reducible first | exact HB.out | apply below_alloc | apply pw_below_drewN | apply below_drew1 | refine below_set ?_ GE149.out) | exact HB.out))⟩; clear HO0 BK149 HB hq_; have HO0 := n0_; have BK149 := n1_; have HB := n2_; clear n0_ n1_ n2_)); have hcz24_0 : w23.cell? ⟨gb149, 0, none⟩ = some (.int .i64 0) := (blk_cell BK149.out 0).trans rfl; have hcz24_1 : w23.cell? ⟨gb149, 1, none⟩ = some (.int .i64 0) := (blk_cell BK149.out 1).trans rfl; have hcz24_2 : w23.cell? ⟨gb149, 2, none⟩ = some (.int .i64 0) := (blk_cell BK149.out 2).trans rfl; have hcz24_3 : w23.cell? ⟨gb149, 3, none⟩ = some (.int .i64 0) := (blk_cell BK149.out 3).trans rfl; have hcz24_4 : w23.cell? ⟨gb149, 4, none⟩ = some (.int .i64 0) := (blk_cell BK149.out 4).trans rfl; have hcz24_5 : w23.cell? ⟨gb149, 5, none⟩ = some (.int .i64 0) := (blk_cell BK149.out 5).trans rfl; have hcz24_6 : w23.cell? ⟨gb149, 6, none⟩ = some (.int .u64 0) := (blk_cell BK149.out 6).trans rfl; have hcz24_7 : w23.cell? ⟨gb149, 7, none⟩ = some (.int .i64 0) := (blk_cell BK149.out 7).trans rfl; have hcz24_8 : w23.cell? ⟨gb149, 8, none⟩ = some (.int .i64 0) := (blk_cell BK149.out 8).trans rfl; have hcz24_9 : w23.cell? ⟨gb149, 9, none⟩ = some (.int .i64 0) := (blk_cell BK149.out 9).trans rfl; have hcz24_10 : w23.cell? ⟨gb149, 10, none⟩ = some (.slice none 0 0) := (blk_cell BK149.out 10).trans rfl; have hcz24_11 : w23.cell? ⟨gb149, 11, none⟩ = some (.string (⟨#[]⟩ : ByteArray)) := (blk_cell BK149.out 11).trans rfl; have hfz24_0 := blk_frozen BK149.out 0; have hfz24_1 := blk_frozen BK149.out 1; have hfz24_2 := blk_frozen BK149.out 2; have hfz24_3 := blk_frozen BK149.out 3; have hfz24_4 := blk_frozen BK149.out 4; have hfz24_5 := blk_frozen BK149.out 5; have hfz24_6 := blk_frozen BK149.out 6; have hfz24_7 := blk_frozen BK149.out 7; have hfz24_8 := blk_frozen BK149.out 8; have hfz24_9 := blk_frozen BK149.out 9; have hfz24_10 := blk_frozen BK149.out 10; have hfz24_11 := blk_frozen BK149.out 11))
    refine bodyPost_ret (results_ctt rfl _ _ gb149 32 #[.int .i64 0, .int .i64 0, .int .i64 0, .int .i64 0, .int .i64 0, .int .i64 0, .int .u64 0, .int .i64 0, .int .i64 0, .int .i64 0, .slice none 0 0, .string (⟨#[]⟩ : ByteArray)] (0, 0) _ rfl (by (with_reducible repeat (first | refine blk_drewN ?_ _ | refine blk_drew ?_ | refine blk_alloc ?_ _)); refine blk_put (cs := #[.int .i64 0, .int .i64 0, .int .i64 0, .int .i64 0, .int .i64 0, .int .i64 0, .int .u64 0, .int .i64 0, .int .i64 0, .int .i64 0, .slice none 0 0, .string (⟨#[]⟩ : ByteArray)]) ?_ 11 _ rfl; (with_reducible repeat (first | refine blk_drewN ?_ _ | refine blk_drew ?_ | refine blk_alloc ?_ _)); refine blk_put (cs := #[.int .i64 0, .int .i64 0, .int .i64 0, .int .i64 0, .int .i64 0, .int .i64 0, .int .u64 0, .int .i64 0, .int .i64 0, .int .i64 0, .slice none 0 0, .string (⟨#[]⟩ : ByteArray)]) ?_ 10 _ rfl; (with_reducible repeat (first | refine blk_drewN ?_ _ | refine blk_drew ?_ | refine blk_alloc ?_ _)); refine blk_put (cs := #[.int .i64 0, .int .i64 0, .int .i64 0, .int .i64 0, .int .i64 0, .int .i64 0, .int .u64 0, .int .i64 0, .int .i64 0, .int .i64 0, .slice none 0 0, .string (⟨#[]⟩ : ByteArray)]) ?_ 9 _ rfl; (with_reducible repeat (first | refine blk_drewN ?_ _ | refine blk_drew ?_ | refine blk_alloc ?_ _)); refine blk_put (cs := #[.int .i64 0, .int .i64 0, .int .i64 0, .int .i64 0, .int .i64 0, .int .i64 0, .int .u64 0, .int .i64 0, .int .i64 0, .int .i64 0, .slice none 0 0, .string (⟨#[]⟩ : ByteArray)]) ?_ 8 _ rfl; (with_reducible repeat (first | refine blk_drewN ?_ _ | refine blk_drew ?_ | refine blk_alloc ?_ _)); refine blk_put (cs := #[.int .i64 0, .int .i64 0, .int .i64 0, .int .i64 0, .int .i64 0, .int .i64 0, .int .u64 0, .int .i64 0, .int .i64 0, .int .i64 0, .slice none 0 0, .string (⟨#[]⟩ : ByteArray)]) ?_ 7 _ rfl; (with_reducible repeat (first | refine blk_drewN ?_ _ | refine blk_drew ?_ | refine blk_alloc ?_ _)); refine blk_put (cs := #[.int .i64 0, .int .i64 0, .int .i64 0, .int .i64 0, .int .i64 0, .int .i64 0, .int .u64 0, .int .i64 0, .int .i64 0, .int .i64 0, .slice none 0 0, .string (⟨#[]⟩ : ByteArray)]) ?_ 6 _ rfl; (with_reducible repeat (first | refine blk_drewN ?_ _ | refine blk_drew ?_ | refine blk_alloc ?_ _)); refine blk_put (cs := #[.int .i64 0, .int .i64 0, .int .i64 0, .int .i64 0, .int .i64 0, .int .i64 0, .int .u64 0, .int .i64 0, .int .i64 0, .int .i64 0, .slice none 0 0, .string (⟨#[]⟩ : ByteArray)]) ?_ 5 _ rfl; (with_reducible repeat (first | refine blk_drewN ?_ _ | refine blk_drew ?_ | refine blk_alloc ?_ _)); refine blk_put (cs := #[.int .i64 0, .int .i64 0, .int .i64 0, .int .i64 0, .int .i64 0, .int .i64 0, .int .u64 0, .int .i64 0, .int .i64 0, .int .i64 0, .slice none 0 0, .string (⟨#[]⟩ : ByteArray)]) ?_ 4 _ rfl; (with_reducible repeat (first | refine blk_drewN ?_ _ | refine blk_drew ?_ | refine blk_alloc ?_ _)); refine blk_put (cs := #[.int .i64 0, .int .i64 0, .int .i64 0, .int .i64 0, .int .i64 0, .int .i64 0, .int .u64 0, .int .i64 0, .int .i64 0, .int .i64 0, .slice none 0 0, .string (⟨#[]⟩ : ByteArray)]) ?_ 3 _ rfl; (with_reducible repeat (first | refine blk_drewN ?_ _ | refine blk_drew ?_ | refine blk_alloc ?_ _)); refine blk_put (cs := #[.int .i64 0, .int .i64 0, .int .i64 0, .int .i64 0, .int .i64 0, .int .i64 0, .int .u64 0, .int .i64 0, .int .i64 0, .int .i64 0, .slice none 0 0, .string (⟨#[]⟩ : ByteArray)]) ?_ 2 _ rfl; (with_reducible repeat (first | refine blk_drewN ?_ _ | refine blk_drew ?_ | refine blk_alloc ?_ _)); refine blk_put (cs := #[.int .i64 0, .int .i64 0, .int .i64 0, .int .i64 0, .int .i64 0, .int .i64 0, .int .u64 0, .int .i64 0, .int .i64 0, .int .i64 0, .slice none 0 0, .string (⟨#[]⟩ : ByteArray)]) ?_ 1 _ rfl; (with_reducible repeat (first | refine blk_drewN ?_ _ | refine blk_drew ?_ | refine blk_alloc ?_ _)); refine blk_put (cs := #[.int .i64 0, .int .i64 0, .int .i64 0, .int .i64 0, .int .i64 0, .int .i64 0, .int .u64 0, .int .i64 0, .int .i64 0, .int .i64 0, .slice none 0 0, .string (⟨#[]⟩ : ByteArray)]) ?_ 0 _ rfl; (with_reducible repeat (first | refine blk_drewN ?_ _ | refine blk_drew ?_ | refine blk_alloc ?_ _)); exact BK149.out) Try.underlying32 rfl (by kernel_rfl)) rfl ?_
    exact ⟨_, _, by first | rfl | (simp [errW_none, errW_some] <;> rfl) | (simp [*, errW_none, errW_some] <;> rfl), Kd.V_nil _ _ _ _ _, by first | exact Kd.R_nil _ _ _ _ _ | exact Kd.N_nil _ _ _ _ _ | exact Kd.V_nil _ _ _ _ _ | exact Kd.Q_nil _ _ _ _ _ | exact Kd.S_nil _ _ _ _ _, by repeat (first | (with_reducible first | exact HB.out | apply below_alloc | apply pw_below_drewN | apply below_drew1 | refine below_set ?_ GE149.out) | exact HB.out)⟩

/-! ### net_Drop: function 14 -/
def net_Drop.f (l0 : List (S32)) (a1 : Int) : Option ((List (S32)) × Int) := (net_has.f l0 a1).bind fun t155 => (if t155 = true then ((net_without.f l0 a1).bind fun t156 => (some (t156, 0))) else (some (([] : List (S32)), 8)))
set_option maxHeartbeats 8000000 in
set_option maxRecDepth 100000 in
theorem net_Drop.calls (P0_ : Nat → Prop) (A0 : Option Addr) (c0 : Nat) (l0 : List (S32)) (a1 : Int) (r1 : List (S32)) (r2 : Int) (w : World) (hs0 : Kd.V k32 32 w w.heap.size (fun k_ => P0_ k_) (.slice A0 l0.length c0) l0) (h : net_Drop.f l0 a1 = some (r1, r2)) :
    Calls Try.prog 14 #[.slice A0 l0.length c0, .int .i64 a1] w fun e w' => ∃ v0_ : Value, e = .returned (.tuple #[v0_, .int .i64 r2]) ∧ Kd.N k32 32 w' w.heap.size (fun k_ => (P0_ k_ ∨ w.heap.size ≤ k_)) v0_ r1 ∧ Below w.heap.size w w' := by
  have HO0 := Aside0.mk (show Kd.V k32 32 w w.heap.size (fun k_ => (P0_ k_ ∨ w.heap.size ≤ k_)) (.slice A0 l0.length c0) l0 from Kd.V_mono hs0 (fun k_ hk => .inl hk))
  have HB := Aside0.mk (Below.refl w.heap.size w)
  have H : ((net_has.f l0 a1).bind fun t155 => (if t155 = true then ((net_without.f l0 a1).bind fun t156 => (some (t156, 0))) else (some (([] : List (S32)), 8)))) = some (r1, r2) := h
  clear h
  replace H := Option.bind_eq_some_iff.mp H
  obtain ⟨t155, A30, H⟩ := H
  replace H : (if t155 = true then ((net_without.f l0 a1).bind fun t156 => (some (t156, 0))) else (some (([] : List (S32)), 8))) = some (r1, r2) := H
  have A3 := Aside0.mk A30
  clear A30
  by_cases c4 : t155 = true
  · subst c4
    have H1 : ((net_without.f l0 a1).bind fun t156 => (some (t156, 0))) = some (r1, r2) := by rw [if_pos rfl] at H; exact H
    clear H
    have H := H1
    clear H1
    replace H := Option.bind_eq_some_iff.mp H
    obtain ⟨t156, A50, H⟩ := H
    replace H : (some (t156, 0)) = some (r1, r2) := H
    have A5 := Aside0.mk A50
    clear A50
    simp only [Option.some.injEq, Prod.mk.injEq] at H
    obtain ⟨rfl, rfl⟩ := H
    go_enter Try.func14, Try.ntmps14
    go_wp2_with (first | ((with_reducible refine gate_callee (f := 20) rfl ?_); refine goesL_ (some 8) rfl rfl Try.func20 (by kernel_rfl) rfl #[.slice A0 l0.length c0, .int .i64 a1] rfl (by (try simp only [List.map_toArray, List.map_cons, List.map_nil]); first | done | rfl | (simp only [List.length_drop, List.length_take]; rfl)) ?_; (with_reducible refine (net_has.calls _ _ l0 a1 true _ ?side1 ?side2 A3.out).mono ?_); (case side1 => repeat (first | exact (Kd.V_reads' HO0.out).2.2 | (with_reducible refine Kd.C_alloc ?_ _) | (with_reducible refine Kd.C_drewN ?_ _) | (with_reducible refine Kd.C_drew ?_))); (case side2 => exact (Kd.V_reads' HO0.out).2.1); rintro e w' ⟨rfl, ⟨nd, rfl⟩⟩; refine ⟨_, rfl, ?_⟩) | ((with_reducible refine gate_callee (f := 21) rfl ?_); refine goesL_ (some 12) rfl rfl Try.func21 (by kernel_rfl) rfl #[.slice A0 l0.length c0, .int .i64 a1] rfl (by (try simp only [List.map_toArray, List.map_cons, List.map_nil]); first | done | rfl | (simp only [List.length_drop, List.length_take]; rfl)) ?_; (with_reducible refine (net_without.calls (fun k_ => (P0_ k_ ∨ w.heap.size ≤ k_)) _ _ l0 a1 t156 _ ?side1 A5.out).mono ?_); (case side1 => exact HO0.out); rintro e w6 ⟨v157, rfl, ho0, hb⟩; refine ⟨_, rfl, ?_⟩; have n0_ := Aside0.mk (Kd.V_elder' (by (with_reducible repeat (first | apply Kd.V_alloc | apply Kd.V_drewN | apply Kd.V_drew)); exact HO0.out) (Kd.N_base ho0) hb); have n1_ := Aside0.mk (Kd.N_lower (Kd.N_mono (ok' := fun k_ => (P0_ k_ ∨ w.heap.size ≤ k_)) ho0 (fun k_ hk_ => Or.elim hk_ (fun hs_ => hs_) (fun hn_ => (.inr (Nat.le_trans (below_size (by repeat (first | (with_reducible first | exact HB.out | apply below_alloc | apply pw_below_drewN | apply below_drew1) | exact HB.out))) hn_))))) (below_size (by repeat (first | (with_reducible first | exact HB.out | apply below_alloc | apply pw_below_drewN | apply below_drew1) | exact HB.out)))); have n2_ := Aside0.mk (below_step (by repeat (first | (with_reducible first | exact HB.out | apply below_alloc | apply pw_below_drewN | apply below_drew1) | exact HB.out)) hb); clear HO0; clear HB; have HO0 := n0_; have HO158 := n1_; have HB := n2_; clear n0_ n1_ n2_; (try clear hb); (try clear hb2); (try clear hk); (try clear hi); (try clear ho0)))
    go_ret2
    exact ⟨_, by first | rfl | (simp [errW_none, errW_some] <;> rfl) | (simp [*, errW_none, errW_some] <;> rfl), by (with_reducible repeat (first | apply Kd.N_alloc | apply Kd.N_drewN | apply Kd.N_drew)); exact HO158.out, by repeat (first | (with_reducible first | exact HB.out | apply below_alloc | apply pw_below_drewN | apply below_drew1) | exact HB.out)⟩
  · replace c4 := Bool.eq_false_iff.mpr c4
    subst c4
    have H1 : (some (([] : List (S32)), 8)) = some (r1, r2) := by rw [if_neg (show ¬ (false = true) by decide)] at H; exact H
    clear H
    have H := H1
    clear H1
    simp only [Option.some.injEq, Prod.mk.injEq] at H
    obtain ⟨rfl, rfl⟩ := H
    go_enter Try.func14, Try.ntmps14
    go_wp2_with (first | ((with_reducible refine gate_callee (f := 20) rfl ?_); refine goesL_ (some 8) rfl rfl Try.func20 (by kernel_rfl) rfl #[.slice A0 l0.length c0, .int .i64 a1] rfl (by (try simp only [List.map_toArray, List.map_cons, List.map_nil]); first | done | rfl | (simp only [List.length_drop, List.length_take]; rfl)) ?_; (with_reducible refine (net_has.calls _ _ l0 a1 false _ ?side1 ?side2 A3.out).mono ?_); (case side1 => repeat (first | exact (Kd.V_reads' HO0.out).2.2 | (with_reducible refine Kd.C_alloc ?_ _) | (with_reducible refine Kd.C_drewN ?_ _) | (with_reducible refine Kd.C_drew ?_))); (case side2 => exact (Kd.V_reads' HO0.out).2.1); rintro e w' ⟨rfl, ⟨nd, rfl⟩⟩; refine ⟨_, rfl, ?_⟩))
    go_ret2
    exact ⟨_, by first | rfl | (simp [errW_none, errW_some] <;> rfl) | (simp [*, errW_none, errW_some] <;> rfl), by first | exact Kd.R_nil _ _ _ _ _ | exact Kd.N_nil _ _ _ _ _ | exact Kd.V_nil _ _ _ _ _ | exact Kd.Q_nil _ _ _ _ _ | exact Kd.S_nil _ _ _ _ _, by repeat (first | (with_reducible first | exact HB.out | apply below_alloc | apply pw_below_drewN | apply below_drew1) | exact HB.out)⟩

theorem clone_nil {α : Type} {d : Kd α} {w : World} {xs : List α} (h : d.C w none xs.length xs) : xs = [] := by
  rcases Nat.eq_zero_or_pos xs.length with h0 | h0
  · exact List.eq_nil_of_length_eq_zero h0
  · obtain ⟨ad, e, _⟩ := h.2.2 h0
    cases e
/-! ### api_Packet_23: function 23 -/
def api_Packet_23.f (l0 : List (S32)) : Option ((List (S32))) := (some (([] : List (S32)) : List (S32))).bind fun y159 => (if y159.length + l0.length < 1172812402961 then (some (y159 ++ l0)) else (none))
set_option maxHeartbeats 8000000 in
set_option maxRecDepth 100000 in
theorem api_Packet_23.calls (P0_ : Nat → Prop) (A0 : Option Addr) (c0 : Nat) (l0 : List (S32)) (r : List (S32)) (w : World) (hs0 : Kd.V k32 32 w w.heap.size (fun k_ => P0_ k_) (.slice A0 l0.length c0) l0) (h : api_Packet_23.f l0 = some r) :
    Calls Try.prog 23 #[.slice A0 l0.length c0] w fun e w' => ∃ v0_ : Value, e = .returned (v0_) ∧ Kd.N k32 32 w' w.heap.size (fun k_ => (P0_ k_ ∨ w.heap.size ≤ k_)) v0_ r ∧ Below w.heap.size w w' := by
  have HO0 := Aside0.mk (show Kd.V k32 32 w w.heap.size (fun k_ => (P0_ k_ ∨ w.heap.size ≤ k_)) (.slice A0 l0.length c0) l0 from Kd.V_mono hs0 (fun k_ hk => .inl hk))
  have HB := Aside0.mk (Below.refl w.heap.size w)
  have H : ((some (([] : List (S32)) : List (S32))).bind fun y159 => (if y159.length + l0.length < 1172812402961 then (some (y159 ++ l0)) else (none))) = some r := h
  clear h
  obtain ⟨y159, hy159⟩ : ∃ y_ : List (S32), y_ = (([] : List (S32))) := ⟨_, rfl⟩
  replace H : (if y159.length + l0.length < 1172812402961 then (some (y159 ++ l0)) else (none)) = some r := by first | (rw [hy159]; with_reducible exact H) | (have H2_ := (Option.bind_some _ _).symm.trans H; rw [hy159]; with_reducible exact H2_) | (have H2_ := (Option.bind_some _ _).symm.trans H; with_reducible exact H2_) | with_reducible exact H | (rw [hy159]; exact H) | exact H
  have Ny159 := Aside0.mk hy159
  clear hy159
  by_cases c2 : y159.length + l0.length < 1172812402961
  · rw [if_pos c2] at H
    have LMc2 := Aside0.mk c2
    clear c2
    obtain ⟨y162, hy162⟩ : ∃ y_ : List (S32), y_ = (y159 ++ l0) := ⟨_, rfl⟩
    replace H : (some y162) = some r := by first | (rw [hy162]; with_reducible exact H) | (have H2_ := (Option.bind_some _ _).symm.trans H; rw [hy162]; with_reducible exact H2_) | (have H2_ := (Option.bind_some _ _).symm.trans H; with_reducible exact H2_) | with_reducible exact H | (rw [hy162]; exact H) | exact H
    have Ny162 := Aside0.mk hy162
    clear hy162
    obtain rfl := Option.some.inj H
    have hnil := fun (wx : World) => Lib.run_eql_slice_nil (P := Try.prog) wx 22 32 A0 l0.length c0 0 0 Try.underlying22
    cases A0 with
    | none =>
      have hl0 : l0 = [] := clone_nil (Kd.V_reads' HO0.out).2.2
      have hr0 : y162 = [] := by rw [Ny162.out, Ny159.out, hl0]; rfl
      have Hr0 := Aside0.mk hr0
      clear hr0 hl0
      go_enter Try.func23, Try.ntmps23
      go_wp2
      go_ret
      exact ⟨_, by first | rfl | (simp; done), by rw [Hr0.out]; exact Kd.N_nil _ _ _ _ _, by repeat (first | (with_reducible first | exact HB.out | apply below_alloc | apply pw_below_drewN | apply below_drew1) | exact HB.out)⟩
    | some ad0 =>
      go_enter Try.func23, Try.ntmps23
      go_wp2_with (first | ((with_reducible refine gate_dst (N := 5) rfl ?_); refine Kd.N_lit k32 _ 32 ?hg (N' := 5) ?hd (xs := ([] : List (S32))) (inner := []) (ok := (fun k_ => (P0_ k_ ∨ w.heap.size ≤ k_))) (okp := (fun k_ => (P0_ k_ ∨ w.heap.size ≤ k_))) ?hr ?hp (fun _ hk => hk) ((show ∀ k_, w.heap.size ≤ k_ → (fun k_ => (P0_ k_ ∨ w.heap.size ≤ k_)) k_ from fun k_ hk => (.inr (Nat.le_trans (below_size (by repeat (first | (with_reducible first | exact HB.out | apply below_alloc | apply pw_below_drewN | apply below_drew1) | exact HB.out))) hk))) _ (Nat.le_refl _)) (Below.refl _ _) (Nat.le_refl _) (by simp) ?_; (case hd => rfl); (case hg => rfl); (case hr => first | (go_simp; done) | (go_simp; rfl)); (case hp => exact (Reps.none _ _)); intro v160 w3 ho4 hb hg_ hnew_; clear hg_ hnew_; (first | rw [← Ny159.out] at ho4 | (simp only [Int.reduceToNat] at ho4; rw [← Ny159.out] at ho4)); have n0_ := Aside0.mk (Kd.V_elder' (by (with_reducible repeat (first | apply Kd.V_alloc | apply Kd.V_drewN | apply Kd.V_drew)); exact HO0.out) (Kd.N_base ho4) hb); have n1_ := Aside0.mk (Kd.N_lower ho4 (below_size (by repeat (first | (with_reducible first | exact HB.out | apply below_alloc | apply pw_below_drewN | apply below_drew1) | exact HB.out)))); have n2_ := Aside0.mk (below_step (by repeat (first | (with_reducible first | exact HB.out | apply below_alloc | apply pw_below_drewN | apply below_drew1) | exact HB.out)) hb); clear HO0; clear HB; have HO0 := n0_; have HO161 := n1_; have HB := n2_; clear n0_ n1_ n2_; clear hb ho4) | ((with_reducible refine gate_builtin (b := .append) (xs := #[.tmp 5, .tmp 6]) rfl ?_); at_builtin; refine Kd.N_append_rows k32 (w0 := w) w.heap.size rfl (.tmp 5) (.tmp 6) 22 32 (.agg #[(.int .i64 0), (.int .i64 0), (.int .i64 0), (.int .i64 0), (.int .i64 0), (.int .i64 0), (.int .u64 0), (.int .i64 0), (.int .i64 0), (.int .i64 0), (.slice none 0 0), (.string ⟨#[]⟩)]) 120 rfl Try.underlying22 info32 rfl (by decide) (by omega) v160 y159 l0 _ _ _ (fun k_ => (P0_ k_ ∨ w.heap.size ≤ k_)) (fun k_ => ((fun k_ => (P0_ k_ ∨ w.heap.size ≤ k_))) k_ ∧ some k_ ≠ (v160 : Value).ownBlock) rfl rfl ?aO ?aR (fun _ hk => hk) ?aF ?aB ?aS ?aL ?_; (case aR => exact (by skip; exact Kd.V_F (Kd.V_mono (ok' := (fun k_ => ((fun k_ => (P0_ k_ ∨ w.heap.size ≤ k_))) k_ ∧ some k_ ≠ (v160 : Value).ownBlock)) (HO0.out) (fun k_ hk => ⟨hk.1, hk.2⟩)))); (case aB => exact (by repeat (first | (with_reducible first | exact HB.out | apply below_alloc | apply pw_below_drewN | apply below_drew1) | exact HB.out))); (case aF => exact (fun k_ hk => (.inr (Nat.le_trans (below_size (by repeat (first | (with_reducible first | exact HB.out | apply below_alloc | apply pw_below_drewN | apply below_drew1) | exact HB.out))) hk)))); (case aO => exact (by (with_reducible repeat (first | apply Kd.N_alloc | apply Kd.N_drewN | apply Kd.N_drew)); exact HO161.out)); (case aS => exact (below_size (by repeat (first | (with_reducible first | exact HB.out | apply below_alloc | apply pw_below_drewN | apply below_drew1) | exact HB.out)))); (case aL => have := LMc2.out; omega); intro v163 w5 ho hb hg hat; rw [← Ny162.out] at ho; have n0_ := Aside0.mk (Kd.V_afterv (ok := (fun k_ => (P0_ k_ ∨ w.heap.size ≤ k_))) (by (with_reducible repeat (first | apply Kd.V_alloc | apply Kd.V_drewN | apply Kd.V_drew)); exact HO0.out) hg hat); have n1_ := Aside0.mk (hb); have n2_ := Aside0.mk (ho); clear HO0; clear HB; clear HO161; have HO0 := n0_; have HB := n1_; have HO164 := n2_; clear n0_ n1_ n2_; clear ho hb hg hat))
      go_ret
      exact ⟨_, by first | rfl | (simp [errW_none, errW_some] <;> rfl) | (simp [*, errW_none, errW_some] <;> rfl), by (with_reducible repeat (first | apply Kd.N_alloc | apply Kd.N_drewN | apply Kd.N_drew)); exact HO164.out, by repeat (first | (with_reducible first | exact HB.out | apply below_alloc | apply pw_below_drewN | apply below_drew1) | exact HB.out)⟩
  · rw [if_neg c2] at H
    exact absurd H (by simp)

/-! ### net_Duplicate: function 16 -/
def net_Duplicate.f (l0 : List (S32)) (a1 : Int) : Option ((List (S32)) × Int) := (net_has.f l0 a1).bind fun t165 => (if t165 = true then (if (l0.length : Int) ≥ 256 then (some (([] : List (S32)), 17)) else ((api_Packet_23.f l0).bind fun t166 => (if 0 ≤ a1 then (if a1 < (l0.length : Int) then ((some (([(⟨(rd_T32 l0 a1).f0, (rd_T32 l0 a1).f1, (rd_T32 l0 a1).f2, (rd_T32 l0 a1).f3, (rd_T32 l0 a1).f4, (rd_T32 l0 a1).f5, (rd_T32 l0 a1).f6, (⟨(rd_T32 l0 a1).f7.f0, (rd_T32 l0 a1).f7.f1, (rd_T32 l0 a1).f7.f2, (rd_T32 l0 a1).f7.f3⟩ : S30), (rd_T32 l0 a1).f8⟩ : S32)] : List (S32)) : List (S32))).bind fun y170 => (if t166.length + y170.length < 1172812402961 then (some ((t166 ++ y170), 0)) else (none))) else (none)) else (none)))) else (some (([] : List (S32)), 8)))
def net_Duplicate.T5 : Bool × List (List Nat × List Nat) := (true, [([], []), ([0], [0]), ([], []), ([], []), ([2, 3], [2, 3]), ([4], [4]), ([5], [5]), ([1, 6, 1], [1, 6]), ([7, 7, 0, 1, 2, 3, 4, 5, 6, 7], [7]), ([8, 0, 1, 2, 3, 4, 5, 6, 7, 8], [])])
def net_Duplicate.B5 : List Nat := [0, 1, 0, 0, 12, 28, 60, 127, 255, 511]
theorem net_Duplicate.tab5 : rtab .any (opsOf Try.f16 5) = net_Duplicate.T5 := by kernel_rfl
theorem net_Duplicate.bits5 : waitsOk net_Duplicate.T5.2 net_Duplicate.B5 = true := by kernel_rfl
set_option maxHeartbeats 8000000 in
set_option maxRecDepth 100000 in
theorem net_Duplicate.calls (P0_ : Nat → Prop) (A0 : Option Addr) (c0 : Nat) (l0 : List (S32)) (a1 : Int) (r1 : List (S32)) (r2 : Int) (w : World) (hs0 : Kd.V k32 32 w w.heap.size (fun k_ => P0_ k_) (.slice A0 l0.length c0) l0) (h : net_Duplicate.f l0 a1 = some (r1, r2)) :
    Calls Try.prog 16 #[.slice A0 l0.length c0, .int .i64 a1] w fun e w' => ∃ v0_ : Value, e = .returned (.tuple #[v0_, .int .i64 r2]) ∧ Kd.N k32 32 w' w.heap.size (fun k_ => (P0_ k_ ∨ w.heap.size ≤ k_)) v0_ r1 ∧ Below w.heap.size w w' := by
  have hu32 := Try.underlying32
  have HO0 := Aside0.mk (show Kd.V k32 32 w w.heap.size (fun k_ => (P0_ k_ ∨ w.heap.size ≤ k_)) (.slice A0 l0.length c0) l0 from Kd.V_mono hs0 (fun k_ hk => .inl hk))
  have HB := Aside0.mk (Below.refl w.heap.size w)
  have H : ((net_has.f l0 a1).bind fun t165 => (if t165 = true then (if (l0.length : Int) ≥ 256 then (some (([] : List (S32)), 17)) else ((api_Packet_23.f l0).bind fun t166 => (if 0 ≤ a1 then (if a1 < (l0.length : Int) then ((some (([(⟨(rd_T32 l0 a1).f0, (rd_T32 l0 a1).f1, (rd_T32 l0 a1).f2, (rd_T32 l0 a1).f3, (rd_T32 l0 a1).f4, (rd_T32 l0 a1).f5, (rd_T32 l0 a1).f6, (⟨(rd_T32 l0 a1).f7.f0, (rd_T32 l0 a1).f7.f1, (rd_T32 l0 a1).f7.f2, (rd_T32 l0 a1).f7.f3⟩ : S30), (rd_T32 l0 a1).f8⟩ : S32)] : List (S32)) : List (S32))).bind fun y170 => (if t166.length + y170.length < 1172812402961 then (some ((t166 ++ y170), 0)) else (none))) else (none)) else (none)))) else (some (([] : List (S32)), 8)))) = some (r1, r2) := h
  clear h
  replace H := Option.bind_eq_some_iff.mp H
  obtain ⟨t165, A30, H⟩ := H
  replace H : (if t165 = true then (if (l0.length : Int) ≥ 256 then (some (([] : List (S32)), 17)) else ((api_Packet_23.f l0).bind fun t166 => (if 0 ≤ a1 then (if a1 < (l0.length : Int) then ((some (([(⟨(rd_T32 l0 a1).f0, (rd_T32 l0 a1).f1, (rd_T32 l0 a1).f2, (rd_T32 l0 a1).f3, (rd_T32 l0 a1).f4, (rd_T32 l0 a1).f5, (rd_T32 l0 a1).f6, (⟨(rd_T32 l0 a1).f7.f0, (rd_T32 l0 a1).f7.f1, (rd_T32 l0 a1).f7.f2, (rd_T32 l0 a1).f7.f3⟩ : S30), (rd_T32 l0 a1).f8⟩ : S32)] : List (S32)) : List (S32))).bind fun y170 => (if t166.length + y170.length < 1172812402961 then (some ((t166 ++ y170), 0)) else (none))) else (none)) else (none)))) else (some (([] : List (S32)), 8))) = some (r1, r2) := H
  have A3 := Aside0.mk A30
  clear A30
  by_cases c4 : t165 = true
  · subst c4
    have H1 : (if (l0.length : Int) ≥ 256 then (some (([] : List (S32)), 17)) else ((api_Packet_23.f l0).bind fun t166 => (if 0 ≤ a1 then (if a1 < (l0.length : Int) then ((some (([(⟨(rd_T32 l0 a1).f0, (rd_T32 l0 a1).f1, (rd_T32 l0 a1).f2, (rd_T32 l0 a1).f3, (rd_T32 l0 a1).f4, (rd_T32 l0 a1).f5, (rd_T32 l0 a1).f6, (⟨(rd_T32 l0 a1).f7.f0, (rd_T32 l0 a1).f7.f1, (rd_T32 l0 a1).f7.f2, (rd_T32 l0 a1).f7.f3⟩ : S30), (rd_T32 l0 a1).f8⟩ : S32)] : List (S32)) : List (S32))).bind fun y170 => (if t166.length + y170.length < 1172812402961 then (some ((t166 ++ y170), 0)) else (none))) else (none)) else (none)))) = some (r1, r2) := by rw [if_pos rfl] at H; exact H
    clear H
    have H := H1
    clear H1
    by_cases c5 : (l0.length : Int) ≥ 256
    · rw [if_pos c5] at H
      have c5b0 : decide (256 ≤ (l0.length : Int)) = true := decide_eq_true c5
      have c5b1 : decide (256 ≤ l0.length) = true := decide_eq_true (by omega)
      clear c5
      simp only [Option.some.injEq, Prod.mk.injEq] at H
      obtain ⟨rfl, rfl⟩ := H
      go_enter Try.func16, Try.ntmps16
      go_wp2_with (first | ((with_reducible refine gate_callee (f := 20) rfl ?_); refine goesL_ (some 9) rfl rfl Try.func20 (by kernel_rfl) rfl #[.slice A0 l0.length c0, .int .i64 a1] rfl (by (try simp only [List.map_toArray, List.map_cons, List.map_nil]); first | done | rfl | (simp only [List.length_drop, List.length_take]; rfl)) ?_; (with_reducible refine (net_has.calls _ _ l0 a1 true _ ?side1 ?side2 A3.out).mono ?_); (case side1 => repeat (first | exact (Kd.V_reads' HO0.out).2.2 | (with_reducible refine Kd.C_alloc ?_ _) | (with_reducible refine Kd.C_drewN ?_ _) | (with_reducible refine Kd.C_drew ?_))); (case side2 => exact (Kd.V_reads' HO0.out).2.1); rintro e w' ⟨rfl, ⟨nd, rfl⟩⟩; refine ⟨_, rfl, ?_⟩))
      go_ret2
      exact ⟨_, by first | rfl | (simp [errW_none, errW_some] <;> rfl) | (simp [*, errW_none, errW_some] <;> rfl), by first | exact Kd.R_nil _ _ _ _ _ | exact Kd.N_nil _ _ _ _ _ | exact Kd.V_nil _ _ _ _ _ | exact Kd.Q_nil _ _ _ _ _ | exact Kd.S_nil _ _ _ _ _, by repeat (first | (with_reducible first | exact HB.out | apply below_alloc | apply pw_below_drewN | apply below_drew1) | exact HB.out)⟩
    · rw [if_neg c5] at H
      have c5b0 : decide (256 ≤ (l0.length : Int)) = false := decide_eq_false c5
      have c5b1 : decide (256 ≤ l0.length) = false := decide_eq_false (by omega)
      clear c5
      replace H := Option.bind_eq_some_iff.mp H
      obtain ⟨t166, A60, H⟩ := H
      replace H : (if 0 ≤ a1 then (if a1 < (l0.length : Int) then ((some (([(⟨(rd_T32 l0 a1).f0, (rd_T32 l0 a1).f1, (rd_T32 l0 a1).f2, (rd_T32 l0 a1).f3, (rd_T32 l0 a1).f4, (rd_T32 l0 a1).f5, (rd_T32 l0 a1).f6, (⟨(rd_T32 l0 a1).f7.f0, (rd_T32 l0 a1).f7.f1, (rd_T32 l0 a1).f7.f2, (rd_T32 l0 a1).f7.f3⟩ : S30), (rd_T32 l0 a1).f8⟩ : S32)] : List (S32)) : List (S32))).bind fun y170 => (if t166.length + y170.length < 1172812402961 then (some ((t166 ++ y170), 0)) else (none))) else (none)) else (none)) = some (r1, r2) := H
      have A6 := Aside0.mk A60
      clear A60
      by_cases c7 : 0 ≤ a1
      · rw [if_pos c7] at H
        have c7b0 : decide (0 ≤ a1) = true := decide_eq_true c7
        clear c7
        by_cases c8 : a1 < (l0.length : Int)
        · rw [if_pos c8] at H
          have c8b0 : decide (a1 < (l0.length : Int)) = true := decide_eq_true c8
          clear c8
          obtain ⟨y170, hy170⟩ : ∃ y_ : List (S32), y_ = (([(⟨(rd_T32 l0 a1).f0, (rd_T32 l0 a1).f1, (rd_T32 l0 a1).f2, (rd_T32 l0 a1).f3, (rd_T32 l0 a1).f4, (rd_T32 l0 a1).f5, (rd_T32 l0 a1).f6, (⟨(rd_T32 l0 a1).f7.f0, (rd_T32 l0 a1).f7.f1, (rd_T32 l0 a1).f7.f2, (rd_T32 l0 a1).f7.f3⟩ : S30), (rd_T32 l0 a1).f8⟩ : S32)] : List (S32))) := ⟨_, rfl⟩
          replace H : (if t166.length + y170.length < 1172812402961 then (some ((t166 ++ y170), 0)) else (none)) = some (r1, r2) := by first | (rw [hy170]; with_reducible exact H) | (have H2_ := (Option.bind_some _ _).symm.trans H; rw [hy170]; with_reducible exact H2_) | (have H2_ := (Option.bind_some _ _).symm.trans H; with_reducible exact H2_) | with_reducible exact H | (rw [hy170]; exact H) | exact H
          have Ny170 := Aside0.mk hy170
          clear hy170
          by_cases c9 : t166.length + y170.length < 1172812402961
          · rw [if_pos c9] at H
            have LMc9 := Aside0.mk c9
            clear c9
            obtain ⟨y173, hy173⟩ : ∃ y_ : List (S32), y_ = (t166 ++ y170) := ⟨_, rfl⟩
            replace H : (some (y173, 0)) = some (r1, r2) := by first | (rw [hy173]; with_reducible exact H) | (have H2_ := (Option.bind_some _ _).symm.trans H; rw [hy173]; with_reducible exact H2_) | (have H2_ := (Option.bind_some _ _).symm.trans H; with_reducible exact H2_) | with_reducible exact H | (rw [hy173]; exact H) | exact H
            have Ny173 := Aside0.mk hy173
            clear hy173
            simp only [Option.some.injEq, Prod.mk.injEq] at H
            obtain ⟨rfl, rfl⟩ := H
            go_enter Try.func16, Try.ntmps16
            try go_wp2_with (first | ((with_reducible refine gate_callee (f := 20) rfl ?_); refine goesL_ (some 9) rfl rfl Try.func20 (by kernel_rfl) rfl #[.slice A0 l0.length c0, .int .i64 a1] rfl (by (try simp only [List.map_toArray, List.map_cons, List.map_nil]); first | done | rfl | (simp only [List.length_drop, List.length_take]; rfl)) ?_; (with_reducible refine (net_has.calls _ _ l0 a1 true _ ?side1 ?side2 A3.out).mono ?_); (case side1 => repeat (first | exact (Kd.V_reads' HO0.out).2.2 | (with_reducible refine Kd.C_alloc ?_ _) | (with_reducible refine Kd.C_drewN ?_ _) | (with_reducible refine Kd.C_drew ?_))); (case side2 => exact (Kd.V_reads' HO0.out).2.1); rintro e w' ⟨rfl, ⟨nd, rfl⟩⟩; refine ⟨_, rfl, ?_⟩; generalize hq_ : World.drewN w nd = w9_; have n0_ : Aside0 (Kd.V k32 32 w9_ w.heap.size (fun k_ => (P0_ k_ ∨ w.heap.size ≤ k_)) (.slice A0 l0.length c0) l0) := ⟨by rw [← hq_]; exact Kd.V_drewN HO0.out nd⟩; have n1_ : Aside0 (Below w.heap.size w w9_) := ⟨by rw [← hq_]; exact pw_below_drewN HB.out nd⟩; clear HO0; clear HB; have HO0 := n0_; have HB := n1_; clear n0_ n1_ hq_))
            have n0_ := Aside0.mk (Kd.V_drew HO0.out)
            have n1_ := Aside0.mk (below_drew1 HB.out)
            clear HO0
            clear HB
            have HO0 := n0_
            have HB := n1_
            clear n0_ n1_
            have p169 : 0 ≤ (a1 : Int) := of_decide_eq_true (by first | (with_reducible assumption) | assumption)
            have q169 : a1 < (l0.length : Int) := of_decide_eq_true (by first | (with_reducible assumption) | assumption)
            obtain ⟨ad169, A169_10, c169_10, e169, hx169_0, hx169_1, hx169_2, hx169_3, hx169_4, hx169_5, hx169_6, hx169_7, hx169_8, hx169_9, hx169_10, hx169_11, hl169_10, hi169_10⟩ := at_T32 (Kd.V_reads' HO0.out).2.2 a1 p169 q169
            cases e169
            obtain ⟨ce169, hce169, hMe169, hcc169⟩ := Kd.V_get HO0.out z32 a1 p169 (by first | exact q169 | exact of_decide_eq_true (by first | (with_reducible assumption) | assumption) | (have e_ := (Kd.V_reads' HO0.out).1; omega))
            obtain ⟨ua169_10, uc169_10, rfl, ul169_10, ge169_10⟩ := k32_openF hMe169
            have hv169_10 := hcc169 10 _ rfl
            rw [add_field _ _ 10 (by omega)] at hv169_10
            replace hv169_10 := Option.some.inj (hv169_10.symm.trans hx169_10)
            injection hv169_10 with hva_ hvn_ hvc_
            rw [hva_] at ge169_10
            rw [hvc_] at ul169_10
            have HL169_10 := Aside0.mk (show Kd.V k49 49 _ w.heap.size _ _ ((rd_T32 l0 a1).f7.f3) from Kd.V_mk ul169_10 ge169_10)
            clear hva_ hvn_ hvc_ ge169_10 ul169_10
            clear hcc169 hce169
            have HR169_10 := Aside0.mk hi169_10
            have HC169_10 := Aside0.mk hl169_10
            clear hi169_10 hl169_10
            replace p169 := eq_true p169
            replace q169 := eq_true q169
            refine start_ (n := 10) (S := fun w' => w'.cell? (ad169.add ((a1).toNat * 12)) = some (.int .i64 ((rd_T32 l0 a1).f0)) ∧ w'.cell? ⟨(ad169.add ((a1).toNat * 12)).block, (ad169.add ((a1).toNat * 12)).off + 1, none⟩ = some (.int .i64 ((rd_T32 l0 a1).f1)) ∧ w'.cell? ⟨(ad169.add ((a1).toNat * 12)).block, (ad169.add ((a1).toNat * 12)).off + 2, none⟩ = some (.int .i64 ((rd_T32 l0 a1).f2)) ∧ w'.cell? ⟨(ad169.add ((a1).toNat * 12)).block, (ad169.add ((a1).toNat * 12)).off + 3, none⟩ = some (.int .i64 ((rd_T32 l0 a1).f3)) ∧ w'.cell? ⟨(ad169.add ((a1).toNat * 12)).block, (ad169.add ((a1).toNat * 12)).off + 4, none⟩ = some (.int .i64 ((rd_T32 l0 a1).f4)) ∧ w'.cell? ⟨(ad169.add ((a1).toNat * 12)).block, (ad169.add ((a1).toNat * 12)).off + 5, none⟩ = some (.int .i64 ((rd_T32 l0 a1).f5)) ∧ w'.cell? ⟨(ad169.add ((a1).toNat * 12)).block, (ad169.add ((a1).toNat * 12)).off + 6, none⟩ = some (.int .u64 ((rd_T32 l0 a1).f6)) ∧ w'.cell? ⟨(ad169.add ((a1).toNat * 12)).block, (ad169.add ((a1).toNat * 12)).off + 7, none⟩ = some (.int .i64 ((rd_T32 l0 a1).f7.f0)) ∧ w'.cell? ⟨(ad169.add ((a1).toNat * 12)).block, (ad169.add ((a1).toNat * 12)).off + 8, none⟩ = some (.int .i64 ((rd_T32 l0 a1).f7.f1)) ∧ w'.cell? ⟨(ad169.add ((a1).toNat * 12)).block, (ad169.add ((a1).toNat * 12)).off + 9, none⟩ = some (.int .i64 ((rd_T32 l0 a1).f7.f2)) ∧ w'.cell? ⟨(ad169.add ((a1).toNat * 12)).block, (ad169.add ((a1).toNat * 12)).off + 10, none⟩ = some (.slice A169_10 ((rd_T32 l0 a1).f7.f3).length c169_10) ∧ w'.cell? ⟨(ad169.add ((a1).toNat * 12)).block, (ad169.add ((a1).toNat * 12)).off + 11, none⟩ = some (.string ((rd_T32 l0 a1).f8))) (ds := [7]) #[false, false, false, false, false, false, false, false, false, false] (by kernel_rfl) rfl rfl ⟨hx169_0, hx169_1, hx169_2, hx169_3, hx169_4, hx169_5, hx169_6, hx169_7, hx169_8, hx169_9, hx169_10, hx169_11⟩ (fun hHeld => ?_); refine with_tabW net_Duplicate.tab5 net_Duplicate.bits5 (fun HT_ HW_ => ?_)
            generalize w9_.drew = w10 at HO0 HB HL169_10 HR169_10 hx169_0 hx169_1 hx169_10 hx169_11 hx169_2 hx169_3 hx169_4 hx169_5 hx169_6 hx169_7 hx169_8 hx169_9 hHeld ⊢
            refine pure_ (i := 0) (N := some 15) (v := ?_) (a' := ?_) #[true, false, false, false, false, false, false, false, false, false] rfl rfl (any_of HT_.out (by kernel_rfl)) (fun _ _ _ h => h) (Or.inl ⟨by rfl, ?_⟩) ?_ ?_
            rotate_left
            · intro w'
              go_simp
              with_reducible rfl
            rotate_left
            · simp only [Act.put, List.setIfInBounds_toArray, List.set_cons_zero, List.set_cons_succ, i64_w, i32_w]
              rfl
            refine pure_ (i := 2) (N := some 17) (v := ?_) (a' := ?_) #[true, false, true, false, false, false, false, false, false, false] rfl rfl (any_of HT_.out (by kernel_rfl)) (fun _ _ _ h => h) (Or.inl ⟨by rfl, ?_⟩) ?_ ?_
            rotate_left
            · intro w'
              go_simp
              with_reducible rfl
            rotate_left
            · simp only [Act.put, List.setIfInBounds_toArray, List.set_cons_zero, List.set_cons_succ, i64_w, i32_w]
              rfl
            refine pure_ (i := 3) (N := some 18) (v := ?_) (a' := ?_) #[true, false, true, true, false, false, false, false, false, false] rfl rfl (any_of HT_.out (by kernel_rfl)) (fun _ _ _ h => h) (Or.inl ⟨by rfl, ?_⟩) ?_ ?_
            rotate_left
            · intro w'
              go_simp
              with_reducible rfl
            rotate_left
            · simp only [Act.put, List.setIfInBounds_toArray, List.set_cons_zero, List.set_cons_succ, i64_w, i32_w]
              rfl
            refine pure_ (i := 4) (N := some 19) (v := ?_) (a' := ?_) #[true, false, true, true, true, false, false, false, false, false] rfl rfl (any_of HT_.out (by kernel_rfl)) (fun _ _ _ h => h) (Or.inl ⟨by rfl, ?_⟩) ?_ ?_
            rotate_left
            · intro w'
              go_simp
              with_reducible rfl
            rotate_left
            · simp only [Act.put, List.setIfInBounds_toArray, List.set_cons_zero, List.set_cons_succ, i64_w, i32_w]
              rfl
            refine take_ (i := 5) (N := some 20) (v := ?_) (a' := ?_) #[true, false, true, true, true, true, false, false, false, false] rfl rfl (take_ofW HT_.out HW_.out (by kernel_rfl)) (fun _ _ _ h => h) (Or.inl ⟨by rfl, ?_⟩) hHeld ?_ ?_
            rotate_left
            · rintro w' ⟨s0, s1, s2, s3, s4, s5, s6, s7, s8, s9, s10, s11⟩
              go_simp
              with_reducible rfl
            rotate_left
            · simp only [Act.put, List.setIfInBounds_toArray, List.set_cons_zero, List.set_cons_succ, i64_w, i32_w]
              rfl
            refine join_ (σ := Value × Value) 3 #[true, true, true, true, true, true, true, false, false, false] (fun s_ => [(16, s_.1), (21, s_.2)]) (fun s_ w' => (w'.cell? (ad169.add ((a1).toNat * 12)) = some (.int .i64 ((rd_T32 l0 a1).f0)) ∧ w'.cell? ⟨(ad169.add ((a1).toNat * 12)).block, (ad169.add ((a1).toNat * 12)).off + 1, none⟩ = some (.int .i64 ((rd_T32 l0 a1).f1)) ∧ w'.cell? ⟨(ad169.add ((a1).toNat * 12)).block, (ad169.add ((a1).toNat * 12)).off + 2, none⟩ = some (.int .i64 ((rd_T32 l0 a1).f2)) ∧ w'.cell? ⟨(ad169.add ((a1).toNat * 12)).block, (ad169.add ((a1).toNat * 12)).off + 3, none⟩ = some (.int .i64 ((rd_T32 l0 a1).f3)) ∧ w'.cell? ⟨(ad169.add ((a1).toNat * 12)).block, (ad169.add ((a1).toNat * 12)).off + 4, none⟩ = some (.int .i64 ((rd_T32 l0 a1).f4)) ∧ w'.cell? ⟨(ad169.add ((a1).toNat * 12)).block, (ad169.add ((a1).toNat * 12)).off + 5, none⟩ = some (.int .i64 ((rd_T32 l0 a1).f5)) ∧ w'.cell? ⟨(ad169.add ((a1).toNat * 12)).block, (ad169.add ((a1).toNat * 12)).off + 6, none⟩ = some (.int .u64 ((rd_T32 l0 a1).f6)) ∧ w'.cell? ⟨(ad169.add ((a1).toNat * 12)).block, (ad169.add ((a1).toNat * 12)).off + 7, none⟩ = some (.int .i64 ((rd_T32 l0 a1).f7.f0)) ∧ w'.cell? ⟨(ad169.add ((a1).toNat * 12)).block, (ad169.add ((a1).toNat * 12)).off + 8, none⟩ = some (.int .i64 ((rd_T32 l0 a1).f7.f1)) ∧ w'.cell? ⟨(ad169.add ((a1).toNat * 12)).block, (ad169.add ((a1).toNat * 12)).off + 9, none⟩ = some (.int .i64 ((rd_T32 l0 a1).f7.f2)) ∧ w'.cell? ⟨(ad169.add ((a1).toNat * 12)).block, (ad169.add ((a1).toNat * 12)).off + 10, none⟩ = some (.slice A169_10 ((rd_T32 l0 a1).f7.f3).length c169_10) ∧ w'.cell? ⟨(ad169.add ((a1).toNat * 12)).block, (ad169.add ((a1).toNat * 12)).off + 11, none⟩ = some (.string ((rd_T32 l0 a1).f8))) ∧ (Kd.V k49 49 w' w.heap.size (fun k_ => (P0_ k_ ∨ w.heap.size ≤ k_) ∧ some k_ ≠ (s_.1 : Value).ownBlock ∧ some k_ ≠ (s_.2 : Value).ownBlock) (.slice A169_10 ((rd_T32 l0 a1).f7.f3).length c169_10) ((rd_T32 l0 a1).f7.f3)) ∧ (Kd.V k32 32 w' w.heap.size (fun k_ => (P0_ k_ ∨ w.heap.size ≤ k_) ∧ some k_ ≠ (s_.1 : Value).ownBlock ∧ some k_ ≠ (s_.2 : Value).ownBlock) (.slice (some ad169) l0.length c0) l0) ∧ (Kd.N k32 32 w' w.heap.size (fun k_ => (P0_ k_ ∨ w.heap.size ≤ k_) ∧ some k_ ≠ (s_.2 : Value).ownBlock) s_.1 t166) ∧ (Kd.N k32 32 w' w.heap.size (fun k_ => (P0_ k_ ∨ w.heap.size ≤ k_) ∧ some k_ ≠ (s_.1 : Value).ownBlock) s_.2 y170) ∧ (Below w.heap.size w w')) ?_ ?_
            rotate_left
            · intro hCont
              refine two_ (i := 1) (j := 6) (Ni := some 16) (Nj := some 21) #[true, true, true, true, true, true, false, false, false, false] #[true, false, true, true, true, true, true, false, false, false] rfl rfl rfl rfl (two_of HT_.out (by kernel_rfl)) (by decide) (by decide) (fun K hK => ?_) (fun K hK => ?_)
              · skip
                refine goes_ Try.func23 (by kernel_rfl) rfl #[.slice (some ad169) l0.length c0] (by rfl) rfl rfl (by (try simp only [List.map_toArray, List.map_cons, List.map_nil]); first | done | rfl | (simp only [List.length_drop, List.length_take]; rfl)) ?_
                with_reducible refine (api_Packet_23.calls (fun k_ => (P0_ k_ ∨ w.heap.size ≤ k_)) _ _ l0 t166 _ ?side1 A6.out).mono ?_
                (case side1 => exact HO0.out)
                rintro e w11 ⟨v167, rfl, ho0, hb⟩
                have HS0_ := (hb.cell (World.block_lt_of_cell? _ _ (hHeld.1))).trans (hHeld.1)
                have HS1_ := (hb.cell (World.block_lt_of_cell? _ _ (hHeld.2.1))).trans (hHeld.2.1)
                have HS2_ := (hb.cell (World.block_lt_of_cell? _ _ (hHeld.2.2.1))).trans (hHeld.2.2.1)
                have HS3_ := (hb.cell (World.block_lt_of_cell? _ _ (hHeld.2.2.2.1))).trans (hHeld.2.2.2.1)
                have HS4_ := (hb.cell (World.block_lt_of_cell? _ _ (hHeld.2.2.2.2.1))).trans (hHeld.2.2.2.2.1)
                have HS5_ := (hb.cell (World.block_lt_of_cell? _ _ (hHeld.2.2.2.2.2.1))).trans (hHeld.2.2.2.2.2.1)
                have HS6_ := (hb.cell (World.block_lt_of_cell? _ _ (hHeld.2.2.2.2.2.2.1))).trans (hHeld.2.2.2.2.2.2.1)
                have HS7_ := (hb.cell (World.block_lt_of_cell? _ _ (hHeld.2.2.2.2.2.2.2.1))).trans (hHeld.2.2.2.2.2.2.2.1)
                have HS8_ := (hb.cell (World.block_lt_of_cell? _ _ (hHeld.2.2.2.2.2.2.2.2.1))).trans (hHeld.2.2.2.2.2.2.2.2.1)
                have HS9_ := (hb.cell (World.block_lt_of_cell? _ _ (hHeld.2.2.2.2.2.2.2.2.2.1))).trans (hHeld.2.2.2.2.2.2.2.2.2.1)
                have HS10_ := (hb.cell (World.block_lt_of_cell? _ _ (hHeld.2.2.2.2.2.2.2.2.2.2.1))).trans (hHeld.2.2.2.2.2.2.2.2.2.2.1)
                have HS11_ := (hb.cell (World.block_lt_of_cell? _ _ (hHeld.2.2.2.2.2.2.2.2.2.2.2))).trans (hHeld.2.2.2.2.2.2.2.2.2.2.2)
                refine ⟨_, rfl, ?_⟩
                have n0_ := Aside0.mk (Kd.V_elder' (by (with_reducible repeat (first | apply Kd.V_alloc | apply Kd.V_drewN | apply Kd.V_drew)); exact HO0.out) (Kd.N_base ho0) hb)
                have n1_ := Aside0.mk (Kd.V_elder' (by (with_reducible repeat (first | apply Kd.V_alloc | apply Kd.V_drewN | apply Kd.V_drew)); exact HL169_10.out) (Kd.N_base ho0) hb)
                have n2_ := Aside0.mk (Kd.N_lower (Kd.N_mono (ok' := fun k_ => (P0_ k_ ∨ w.heap.size ≤ k_)) ho0 (fun k_ hk_ => Or.elim hk_ (fun hs_ => hs_) (fun hn_ => (.inr (Nat.le_trans (below_size (by repeat (first | (with_reducible first | exact HB.out | apply below_alloc | apply pw_below_drewN | apply below_drew1) | exact HB.out))) hn_))))) (below_size (by repeat (first | (with_reducible first | exact HB.out | apply below_alloc | apply pw_below_drewN | apply below_drew1) | exact HB.out))))
                have n3_ := Aside0.mk (Kd.C_below (by repeat (first | (with_reducible exact HR169_10.out) | (with_reducible refine Kd.C_alloc ?_ _) | (with_reducible refine Kd.C_drewN ?_ _) | (with_reducible refine Kd.C_drew ?_) | exact HR169_10.out)) hb)
                have n4_ := Aside0.mk (below_step (by repeat (first | (with_reducible first | exact HB.out | apply below_alloc | apply pw_below_drewN | apply below_drew1) | exact HB.out)) hb)
                clear HO0
                clear HL169_10
                clear HR169_10
                clear HB
                have HO0 := n0_
                have HL169_10 := n1_
                have HO168 := n2_
                have HR169_10 := n3_
                have HB := n4_
                clear n0_ n1_ n2_ n3_ n4_
                (try clear hb)
                (try clear hb2)
                (try clear hk)
                (try clear hi)
                (try clear ho0)
                refine hK.out _ _ ⟨HS0_, HS1_, HS2_, HS3_, HS4_, HS5_, HS6_, HS7_, HS8_, HS9_, HS10_, HS11_⟩ (fun hHeld => ?_)
                clear hK K
                refine norm_ (a' := ?_) ?_ ?_
                rotate_left
                · show Act.put _ (some 16) _ = _
                  simp only [Act.put, List.setIfInBounds_toArray, List.set_cons_zero, List.set_cons_succ, i64_w, i32_w]
                  rfl
                refine one_ (i := 6) (N := some 21) #[true, true, true, true, true, true, true, false, false, false] rfl rfl (one_of HT_.out (by kernel_rfl)) (by decide) (fun K hK => ?_)
                refine Kd.N_lit_step k32 _ 32 ?hg (N' := 21) ?hd (xs := ([(⟨(rd_T32 l0 a1).f0, (rd_T32 l0 a1).f1, (rd_T32 l0 a1).f2, (rd_T32 l0 a1).f3, (rd_T32 l0 a1).f4, (rd_T32 l0 a1).f5, (rd_T32 l0 a1).f6, (⟨(rd_T32 l0 a1).f7.f0, (rd_T32 l0 a1).f7.f1, (rd_T32 l0 a1).f7.f2, (rd_T32 l0 a1).f7.f3⟩ : S30), (rd_T32 l0 a1).f8⟩ : S32)] : List (S32))) (inner := [.int .i64 ((rd_T32 l0 a1).f0), .int .i64 ((rd_T32 l0 a1).f1), .int .i64 ((rd_T32 l0 a1).f2), .int .i64 ((rd_T32 l0 a1).f3), .int .i64 ((rd_T32 l0 a1).f4), .int .i64 ((rd_T32 l0 a1).f5), .int .u64 ((rd_T32 l0 a1).f6), .int .i64 ((rd_T32 l0 a1).f7.f0), .int .i64 ((rd_T32 l0 a1).f7.f1), .int .i64 ((rd_T32 l0 a1).f7.f2), .slice A169_10 ((rd_T32 l0 a1).f7.f3).length c169_10, .string ((rd_T32 l0 a1).f8)]) (ok := (fun k_ => (P0_ k_ ∨ w.heap.size ≤ k_) ∧ some k_ ≠ (v167 : Value).ownBlock)) (okp := (fun k_ => (P0_ k_ ∨ w.heap.size ≤ k_) ∧ some k_ ≠ (v167 : Value).ownBlock)) ?hr ?hp (fun _ hk => hk) ((show ∀ k_, w11.heap.size ≤ k_ → (fun k_ => (P0_ k_ ∨ w.heap.size ≤ k_) ∧ some k_ ≠ (v167 : Value).ownBlock) k_ from fun k_ hk => ⟨(.inr (Nat.le_trans (below_size (by repeat (first | (with_reducible first | exact HB.out | apply below_alloc | apply pw_below_drewN | apply below_drew1) | exact HB.out))) hk)), Kd.fresh' (Kd.N_lt (by (with_reducible repeat (first | apply Kd.N_alloc | apply Kd.N_drewN | apply Kd.N_drew)); exact HO168.out)) k_ hk⟩) _ (Nat.le_refl _)) (Below.refl _ _) (Nat.le_refl _) (by simp) ?_; (case hd => rfl); (case hg => rfl); (case hr => first | (go_simp; done) | (go_simp; rfl)); (case hp => exact (Reps.front (show Kd.FK k32 _ _ (⟨(rd_T32 l0 a1).f0, (rd_T32 l0 a1).f1, (rd_T32 l0 a1).f2, (rd_T32 l0 a1).f3, (rd_T32 l0 a1).f4, (rd_T32 l0 a1).f5, (rd_T32 l0 a1).f6, (⟨(rd_T32 l0 a1).f7.f0, (rd_T32 l0 a1).f7.f1, (rd_T32 l0 a1).f7.f2, (rd_T32 l0 a1).f7.f3⟩ : S30), (rd_T32 l0 a1).f8⟩ : S32) [.int .i64 ((rd_T32 l0 a1).f0), .int .i64 ((rd_T32 l0 a1).f1), .int .i64 ((rd_T32 l0 a1).f2), .int .i64 ((rd_T32 l0 a1).f3), .int .i64 ((rd_T32 l0 a1).f4), .int .i64 ((rd_T32 l0 a1).f5), .int .u64 ((rd_T32 l0 a1).f6), .int .i64 ((rd_T32 l0 a1).f7.f0), .int .i64 ((rd_T32 l0 a1).f7.f1), .int .i64 ((rd_T32 l0 a1).f7.f2), .slice A169_10 ((rd_T32 l0 a1).f7.f3).length c169_10, .string ((rd_T32 l0 a1).f8)] from (k32_mkF _ _ (⟨(rd_T32 l0 a1).f0, (rd_T32 l0 a1).f1, (rd_T32 l0 a1).f2, (rd_T32 l0 a1).f3, (rd_T32 l0 a1).f4, (rd_T32 l0 a1).f5, (rd_T32 l0 a1).f6, (⟨(rd_T32 l0 a1).f7.f0, (rd_T32 l0 a1).f7.f1, (rd_T32 l0 a1).f7.f2, (rd_T32 l0 a1).f7.f3⟩ : S30), (rd_T32 l0 a1).f8⟩ : S32) (Kd.V_reads' (Kd.V_mono (ok' := (fun k_ => (P0_ k_ ∨ w.heap.size ≤ k_) ∧ some k_ ≠ (v167 : Value).ownBlock)) (HL169_10.out) (fun k_ hk => ⟨hk.1, hk.2⟩))).2.1 (Kd.V_F (Kd.V_mono (ok' := (fun k_ => (P0_ k_ ∨ w.heap.size ≤ k_) ∧ some k_ ≠ (v167 : Value).ownBlock)) (HL169_10.out) (fun k_ hk => ⟨hk.1, hk.2⟩))))) rfl (Reps.none _ _) rfl))
                intro v171 w12 ho13 hb hg_ hnew_
                have HS0_ := (hb.cell (World.block_lt_of_cell? _ _ (hHeld.1))).trans (hHeld.1)
                have HS1_ := (hb.cell (World.block_lt_of_cell? _ _ (hHeld.2.1))).trans (hHeld.2.1)
                have HS2_ := (hb.cell (World.block_lt_of_cell? _ _ (hHeld.2.2.1))).trans (hHeld.2.2.1)
                have HS3_ := (hb.cell (World.block_lt_of_cell? _ _ (hHeld.2.2.2.1))).trans (hHeld.2.2.2.1)
                have HS4_ := (hb.cell (World.block_lt_of_cell? _ _ (hHeld.2.2.2.2.1))).trans (hHeld.2.2.2.2.1)
                have HS5_ := (hb.cell (World.block_lt_of_cell? _ _ (hHeld.2.2.2.2.2.1))).trans (hHeld.2.2.2.2.2.1)
                have HS6_ := (hb.cell (World.block_lt_of_cell? _ _ (hHeld.2.2.2.2.2.2.1))).trans (hHeld.2.2.2.2.2.2.1)
                have HS7_ := (hb.cell (World.block_lt_of_cell? _ _ (hHeld.2.2.2.2.2.2.2.1))).trans (hHeld.2.2.2.2.2.2.2.1)
                have HS8_ := (hb.cell (World.block_lt_of_cell? _ _ (hHeld.2.2.2.2.2.2.2.2.1))).trans (hHeld.2.2.2.2.2.2.2.2.1)
                have HS9_ := (hb.cell (World.block_lt_of_cell? _ _ (hHeld.2.2.2.2.2.2.2.2.2.1))).trans (hHeld.2.2.2.2.2.2.2.2.2.1)
                have HS10_ := (hb.cell (World.block_lt_of_cell? _ _ (hHeld.2.2.2.2.2.2.2.2.2.2.1))).trans (hHeld.2.2.2.2.2.2.2.2.2.2.1)
                have HS11_ := (hb.cell (World.block_lt_of_cell? _ _ (hHeld.2.2.2.2.2.2.2.2.2.2.2))).trans (hHeld.2.2.2.2.2.2.2.2.2.2.2)
                clear hg_ hnew_
                (first | rw [← Ny170.out] at ho13 | (simp only [Int.reduceToNat] at ho13; rw [← Ny170.out] at ho13))
                have n0_ := Aside0.mk (Kd.V_elder' (by (with_reducible repeat (first | apply Kd.V_alloc | apply Kd.V_drewN | apply Kd.V_drew)); exact HO0.out) (Kd.N_base ho13) hb)
                have n1_ := Aside0.mk (Kd.V_elder' (by (with_reducible repeat (first | apply Kd.V_alloc | apply Kd.V_drewN | apply Kd.V_drew)); exact HL169_10.out) (Kd.N_base ho13) hb)
                have n2_ := Aside0.mk (Kd.N_elder' (by (with_reducible repeat (first | apply Kd.N_alloc | apply Kd.N_drewN | apply Kd.N_drew)); exact HO168.out) (Kd.N_base ho13) hb)
                have n3_ := Aside0.mk (Kd.N_lower ho13 (below_size (by repeat (first | (with_reducible first | exact HB.out | apply below_alloc | apply pw_below_drewN | apply below_drew1) | exact HB.out))))
                have n4_ := Aside0.mk (Kd.C_below (by repeat (first | (with_reducible exact HR169_10.out) | (with_reducible refine Kd.C_alloc ?_ _) | (with_reducible refine Kd.C_drewN ?_ _) | (with_reducible refine Kd.C_drew ?_) | exact HR169_10.out)) hb)
                have n5_ := Aside0.mk (below_step (by repeat (first | (with_reducible first | exact HB.out | apply below_alloc | apply pw_below_drewN | apply below_drew1) | exact HB.out)) hb)
                clear HO0
                clear HL169_10
                clear HO168
                clear HR169_10
                clear HB
                have HO0 := n0_
                have HL169_10 := n1_
                have HO168 := n2_
                have HO172 := n3_
                have HR169_10 := n4_
                have HB := n5_
                clear n0_ n1_ n2_ n3_ n4_ n5_
                clear hb ho13
                refine hK.out _ _ ⟨HS0_, HS1_, HS2_, HS3_, HS4_, HS5_, HS6_, HS7_, HS8_, HS9_, HS10_, HS11_⟩ (fun hHeld => ?_)
                clear hK K
                refine norm_ (a' := ?_) ?_ ?_
                rotate_left
                · show Act.put _ (some 21) _ = _
                  simp only [Act.put, List.setIfInBounds_toArray, List.set_cons_zero, List.set_cons_succ, i64_w, i32_w]
                  rfl
                exact norm_ (by simp only [putAll, Act.put, List.setIfInBounds_toArray, List.set_cons_zero, List.set_cons_succ]) (hCont (v167, v171) _ ⟨hHeld, (by (with_reducible repeat (first | apply Kd.V_alloc | apply Kd.V_drewN | apply Kd.V_drew)); exact Kd.V_mono HL169_10.out (fun _ hk => ⟨hk.1.1, ⟨hk.1.2, hk.2⟩⟩)), (by (with_reducible repeat (first | apply Kd.V_alloc | apply Kd.V_drewN | apply Kd.V_drew)); exact Kd.V_mono HO0.out (fun _ hk => ⟨hk.1.1, ⟨hk.1.2, hk.2⟩⟩)), (by (with_reducible repeat (first | apply Kd.N_alloc | apply Kd.N_drewN | apply Kd.N_drew)); exact HO168.out), (by (with_reducible repeat (first | apply Kd.N_alloc | apply Kd.N_drewN | apply Kd.N_drew)); exact HO172.out), (by repeat (first | (with_reducible first | exact HB.out | apply below_alloc | apply pw_below_drewN | apply below_drew1) | exact HB.out))⟩)
              · skip
                refine Kd.N_lit_step k32 _ 32 ?hg (N' := 21) ?hd (xs := ([(⟨(rd_T32 l0 a1).f0, (rd_T32 l0 a1).f1, (rd_T32 l0 a1).f2, (rd_T32 l0 a1).f3, (rd_T32 l0 a1).f4, (rd_T32 l0 a1).f5, (rd_T32 l0 a1).f6, (⟨(rd_T32 l0 a1).f7.f0, (rd_T32 l0 a1).f7.f1, (rd_T32 l0 a1).f7.f2, (rd_T32 l0 a1).f7.f3⟩ : S30), (rd_T32 l0 a1).f8⟩ : S32)] : List (S32))) (inner := [.int .i64 ((rd_T32 l0 a1).f0), .int .i64 ((rd_T32 l0 a1).f1), .int .i64 ((rd_T32 l0 a1).f2), .int .i64 ((rd_T32 l0 a1).f3), .int .i64 ((rd_T32 l0 a1).f4), .int .i64 ((rd_T32 l0 a1).f5), .int .u64 ((rd_T32 l0 a1).f6), .int .i64 ((rd_T32 l0 a1).f7.f0), .int .i64 ((rd_T32 l0 a1).f7.f1), .int .i64 ((rd_T32 l0 a1).f7.f2), .slice A169_10 ((rd_T32 l0 a1).f7.f3).length c169_10, .string ((rd_T32 l0 a1).f8)]) (ok := (fun k_ => (P0_ k_ ∨ w.heap.size ≤ k_))) (okp := (fun k_ => (P0_ k_ ∨ w.heap.size ≤ k_))) ?hr ?hp (fun _ hk => hk) ((show ∀ k_, w10.heap.size ≤ k_ → (fun k_ => (P0_ k_ ∨ w.heap.size ≤ k_)) k_ from fun k_ hk => (.inr (Nat.le_trans (below_size (by repeat (first | (with_reducible first | exact HB.out | apply below_alloc | apply pw_below_drewN | apply below_drew1) | exact HB.out))) hk))) _ (Nat.le_refl _)) (Below.refl _ _) (Nat.le_refl _) (by simp) ?_; (case hd => rfl); (case hg => rfl); (case hr => first | (go_simp; done) | (go_simp; rfl)); (case hp => exact (Reps.front (show Kd.FK k32 _ _ (⟨(rd_T32 l0 a1).f0, (rd_T32 l0 a1).f1, (rd_T32 l0 a1).f2, (rd_T32 l0 a1).f3, (rd_T32 l0 a1).f4, (rd_T32 l0 a1).f5, (rd_T32 l0 a1).f6, (⟨(rd_T32 l0 a1).f7.f0, (rd_T32 l0 a1).f7.f1, (rd_T32 l0 a1).f7.f2, (rd_T32 l0 a1).f7.f3⟩ : S30), (rd_T32 l0 a1).f8⟩ : S32) [.int .i64 ((rd_T32 l0 a1).f0), .int .i64 ((rd_T32 l0 a1).f1), .int .i64 ((rd_T32 l0 a1).f2), .int .i64 ((rd_T32 l0 a1).f3), .int .i64 ((rd_T32 l0 a1).f4), .int .i64 ((rd_T32 l0 a1).f5), .int .u64 ((rd_T32 l0 a1).f6), .int .i64 ((rd_T32 l0 a1).f7.f0), .int .i64 ((rd_T32 l0 a1).f7.f1), .int .i64 ((rd_T32 l0 a1).f7.f2), .slice A169_10 ((rd_T32 l0 a1).f7.f3).length c169_10, .string ((rd_T32 l0 a1).f8)] from (k32_mkF _ _ (⟨(rd_T32 l0 a1).f0, (rd_T32 l0 a1).f1, (rd_T32 l0 a1).f2, (rd_T32 l0 a1).f3, (rd_T32 l0 a1).f4, (rd_T32 l0 a1).f5, (rd_T32 l0 a1).f6, (⟨(rd_T32 l0 a1).f7.f0, (rd_T32 l0 a1).f7.f1, (rd_T32 l0 a1).f7.f2, (rd_T32 l0 a1).f7.f3⟩ : S30), (rd_T32 l0 a1).f8⟩ : S32) (Kd.V_reads' (Kd.V_mono (ok' := (fun k_ => (P0_ k_ ∨ w.heap.size ≤ k_))) (HL169_10.out) (fun k_ hk => hk))).2.1 (Kd.V_F (Kd.V_mono (ok' := (fun k_ => (P0_ k_ ∨ w.heap.size ≤ k_))) (HL169_10.out) (fun k_ hk => hk))))) rfl (Reps.none _ _) rfl))
                intro v171 w11 ho12 hb hg_ hnew_
                have HS0_ := (hb.cell (World.block_lt_of_cell? _ _ (hHeld.1))).trans (hHeld.1)
                have HS1_ := (hb.cell (World.block_lt_of_cell? _ _ (hHeld.2.1))).trans (hHeld.2.1)
                have HS2_ := (hb.cell (World.block_lt_of_cell? _ _ (hHeld.2.2.1))).trans (hHeld.2.2.1)
                have HS3_ := (hb.cell (World.block_lt_of_cell? _ _ (hHeld.2.2.2.1))).trans (hHeld.2.2.2.1)
                have HS4_ := (hb.cell (World.block_lt_of_cell? _ _ (hHeld.2.2.2.2.1))).trans (hHeld.2.2.2.2.1)
                have HS5_ := (hb.cell (World.block_lt_of_cell? _ _ (hHeld.2.2.2.2.2.1))).trans (hHeld.2.2.2.2.2.1)
                have HS6_ := (hb.cell (World.block_lt_of_cell? _ _ (hHeld.2.2.2.2.2.2.1))).trans (hHeld.2.2.2.2.2.2.1)
                have HS7_ := (hb.cell (World.block_lt_of_cell? _ _ (hHeld.2.2.2.2.2.2.2.1))).trans (hHeld.2.2.2.2.2.2.2.1)
                have HS8_ := (hb.cell (World.block_lt_of_cell? _ _ (hHeld.2.2.2.2.2.2.2.2.1))).trans (hHeld.2.2.2.2.2.2.2.2.1)
                have HS9_ := (hb.cell (World.block_lt_of_cell? _ _ (hHeld.2.2.2.2.2.2.2.2.2.1))).trans (hHeld.2.2.2.2.2.2.2.2.2.1)
                have HS10_ := (hb.cell (World.block_lt_of_cell? _ _ (hHeld.2.2.2.2.2.2.2.2.2.2.1))).trans (hHeld.2.2.2.2.2.2.2.2.2.2.1)
                have HS11_ := (hb.cell (World.block_lt_of_cell? _ _ (hHeld.2.2.2.2.2.2.2.2.2.2.2))).trans (hHeld.2.2.2.2.2.2.2.2.2.2.2)
                clear hg_ hnew_
                (first | rw [← Ny170.out] at ho12 | (simp only [Int.reduceToNat] at ho12; rw [← Ny170.out] at ho12))
                have n0_ := Aside0.mk (Kd.V_elder' (by (with_reducible repeat (first | apply Kd.V_alloc | apply Kd.V_drewN | apply Kd.V_drew)); exact HO0.out) (Kd.N_base ho12) hb)
                have n1_ := Aside0.mk (Kd.V_elder' (by (with_reducible repeat (first | apply Kd.V_alloc | apply Kd.V_drewN | apply Kd.V_drew)); exact HL169_10.out) (Kd.N_base ho12) hb)
                have n2_ := Aside0.mk (Kd.N_lower ho12 (below_size (by repeat (first | (with_reducible first | exact HB.out | apply below_alloc | apply pw_below_drewN | apply below_drew1) | exact HB.out))))
                have n3_ := Aside0.mk (Kd.C_below (by repeat (first | (with_reducible exact HR169_10.out) | (with_reducible refine Kd.C_alloc ?_ _) | (with_reducible refine Kd.C_drewN ?_ _) | (with_reducible refine Kd.C_drew ?_) | exact HR169_10.out)) hb)
                have n4_ := Aside0.mk (below_step (by repeat (first | (with_reducible first | exact HB.out | apply below_alloc | apply pw_below_drewN | apply below_drew1) | exact HB.out)) hb)
                clear HO0
                clear HL169_10
                clear HR169_10
                clear HB
                have HO0 := n0_
                have HL169_10 := n1_
                have HO172 := n2_
                have HR169_10 := n3_
                have HB := n4_
                clear n0_ n1_ n2_ n3_ n4_
                clear hb ho12
                refine hK.out _ _ ⟨HS0_, HS1_, HS2_, HS3_, HS4_, HS5_, HS6_, HS7_, HS8_, HS9_, HS10_, HS11_⟩ (fun hHeld => ?_)
                clear hK K
                refine norm_ (a' := ?_) ?_ ?_
                rotate_left
                · show Act.put _ (some 21) _ = _
                  simp only [Act.put, List.setIfInBounds_toArray, List.set_cons_zero, List.set_cons_succ, i64_w, i32_w]
                  rfl
                refine one_ (i := 1) (N := some 16) #[true, true, true, true, true, true, true, false, false, false] rfl rfl (one_of HT_.out (by kernel_rfl)) (by decide) (fun K hK => ?_)
                refine goes_ Try.func23 (by kernel_rfl) rfl #[.slice (some ad169) l0.length c0] (by rfl) rfl rfl (by (try simp only [List.map_toArray, List.map_cons, List.map_nil]); first | done | rfl | (simp only [List.length_drop, List.length_take]; rfl)) ?_
                with_reducible refine (api_Packet_23.calls (fun k_ => ((P0_ k_ ∨ w.heap.size ≤ k_) ∧ some k_ ≠ (v171 : Value).ownBlock)) _ _ l0 t166 _ ?side1 A6.out).mono ?_
                (case side1 => exact HO0.out)
                rintro e w13 ⟨v167, rfl, ho0, hb⟩
                have HS0_ := (hb.cell (World.block_lt_of_cell? _ _ (hHeld.1))).trans (hHeld.1)
                have HS1_ := (hb.cell (World.block_lt_of_cell? _ _ (hHeld.2.1))).trans (hHeld.2.1)
                have HS2_ := (hb.cell (World.block_lt_of_cell? _ _ (hHeld.2.2.1))).trans (hHeld.2.2.1)
                have HS3_ := (hb.cell (World.block_lt_of_cell? _ _ (hHeld.2.2.2.1))).trans (hHeld.2.2.2.1)
                have HS4_ := (hb.cell (World.block_lt_of_cell? _ _ (hHeld.2.2.2.2.1))).trans (hHeld.2.2.2.2.1)
                have HS5_ := (hb.cell (World.block_lt_of_cell? _ _ (hHeld.2.2.2.2.2.1))).trans (hHeld.2.2.2.2.2.1)
                have HS6_ := (hb.cell (World.block_lt_of_cell? _ _ (hHeld.2.2.2.2.2.2.1))).trans (hHeld.2.2.2.2.2.2.1)
                have HS7_ := (hb.cell (World.block_lt_of_cell? _ _ (hHeld.2.2.2.2.2.2.2.1))).trans (hHeld.2.2.2.2.2.2.2.1)
                have HS8_ := (hb.cell (World.block_lt_of_cell? _ _ (hHeld.2.2.2.2.2.2.2.2.1))).trans (hHeld.2.2.2.2.2.2.2.2.1)
                have HS9_ := (hb.cell (World.block_lt_of_cell? _ _ (hHeld.2.2.2.2.2.2.2.2.2.1))).trans (hHeld.2.2.2.2.2.2.2.2.2.1)
                have HS10_ := (hb.cell (World.block_lt_of_cell? _ _ (hHeld.2.2.2.2.2.2.2.2.2.2.1))).trans (hHeld.2.2.2.2.2.2.2.2.2.2.1)
                have HS11_ := (hb.cell (World.block_lt_of_cell? _ _ (hHeld.2.2.2.2.2.2.2.2.2.2.2))).trans (hHeld.2.2.2.2.2.2.2.2.2.2.2)
                refine ⟨_, rfl, ?_⟩
                have n0_ := Aside0.mk (Kd.V_elder' (by (with_reducible repeat (first | apply Kd.V_alloc | apply Kd.V_drewN | apply Kd.V_drew)); exact HO0.out) (Kd.N_base ho0) hb)
                have n1_ := Aside0.mk (Kd.V_elder' (by (with_reducible repeat (first | apply Kd.V_alloc | apply Kd.V_drewN | apply Kd.V_drew)); exact HL169_10.out) (Kd.N_base ho0) hb)
                have n2_ := Aside0.mk (Kd.N_elder' (by (with_reducible repeat (first | apply Kd.N_alloc | apply Kd.N_drewN | apply Kd.N_drew)); exact HO172.out) (Kd.N_base ho0) hb)
                have n3_ := Aside0.mk (Kd.N_lower (Kd.N_mono (ok' := fun k_ => (P0_ k_ ∨ w.heap.size ≤ k_) ∧ some k_ ≠ (v171 : Value).ownBlock) ho0 (fun k_ hk_ => ⟨Or.elim hk_ (fun hs_ => hs_.1) (fun hn_ => (.inr (Nat.le_trans (below_size (by repeat (first | (with_reducible first | exact HB.out | apply below_alloc | apply pw_below_drewN | apply below_drew1) | exact HB.out))) hn_))), Or.elim hk_ (fun hs_ => hs_.2) (fun hn_ => (Kd.fresh' (Kd.N_lt (by (with_reducible repeat (first | apply Kd.N_alloc | apply Kd.N_drewN | apply Kd.N_drew)); exact HO172.out)) k_ hn_))⟩)) (below_size (by repeat (first | (with_reducible first | exact HB.out | apply below_alloc | apply pw_below_drewN | apply below_drew1) | exact HB.out))))
                have n4_ := Aside0.mk (Kd.C_below (by repeat (first | (with_reducible exact HR169_10.out) | (with_reducible refine Kd.C_alloc ?_ _) | (with_reducible refine Kd.C_drewN ?_ _) | (with_reducible refine Kd.C_drew ?_) | exact HR169_10.out)) hb)
                have n5_ := Aside0.mk (below_step (by repeat (first | (with_reducible first | exact HB.out | apply below_alloc | apply pw_below_drewN | apply below_drew1) | exact HB.out)) hb)
                clear HO0
                clear HL169_10
                clear HO172
                clear HR169_10
                clear HB
                have HO0 := n0_
                have HL169_10 := n1_
                have HO172 := n2_
                have HO168 := n3_
                have HR169_10 := n4_
                have HB := n5_
                clear n0_ n1_ n2_ n3_ n4_ n5_
                (try clear hb)
                (try clear hb2)
                (try clear hk)
                (try clear hi)
                (try clear ho0)
                refine hK.out _ _ ⟨HS0_, HS1_, HS2_, HS3_, HS4_, HS5_, HS6_, HS7_, HS8_, HS9_, HS10_, HS11_⟩ (fun hHeld => ?_)
                clear hK K
                refine norm_ (a' := ?_) ?_ ?_
                rotate_left
                · show Act.put _ (some 16) _ = _
                  simp only [Act.put, List.setIfInBounds_toArray, List.set_cons_zero, List.set_cons_succ, i64_w, i32_w]
                  rfl
                exact norm_ (by simp only [putAll, Act.put, List.setIfInBounds_toArray, List.set_cons_zero, List.set_cons_succ]) (hCont (v167, v171) _ ⟨hHeld, (by (with_reducible repeat (first | apply Kd.V_alloc | apply Kd.V_drewN | apply Kd.V_drew)); exact Kd.V_mono HL169_10.out (fun _ hk => ⟨hk.1.1, ⟨hk.2, hk.1.2⟩⟩)), (by (with_reducible repeat (first | apply Kd.V_alloc | apply Kd.V_drewN | apply Kd.V_drew)); exact Kd.V_mono HO0.out (fun _ hk => ⟨hk.1.1, ⟨hk.2, hk.1.2⟩⟩)), (by (with_reducible repeat (first | apply Kd.N_alloc | apply Kd.N_drewN | apply Kd.N_drew)); exact HO168.out), (by (with_reducible repeat (first | apply Kd.N_alloc | apply Kd.N_drewN | apply Kd.N_drew)); exact HO172.out), (by repeat (first | (with_reducible first | exact HB.out | apply below_alloc | apply pw_below_drewN | apply below_drew1) | exact HB.out))⟩)
            rintro ⟨v167, v171⟩ w14 ⟨hS_, h0_, h1_, h2_, h3_, h4_⟩
            have n0_ : Aside0 (Kd.V k49 49 w14 w.heap.size (fun k_ => (P0_ k_ ∨ w.heap.size ≤ k_) ∧ some k_ ≠ (v167 : Value).ownBlock ∧ some k_ ≠ (v171 : Value).ownBlock) (.slice A169_10 ((rd_T32 l0 a1).f7.f3).length c169_10) ((rd_T32 l0 a1).f7.f3)) := ⟨h0_⟩
            have n1_ : Aside0 (Kd.V k32 32 w14 w.heap.size (fun k_ => (P0_ k_ ∨ w.heap.size ≤ k_) ∧ some k_ ≠ (v167 : Value).ownBlock ∧ some k_ ≠ (v171 : Value).ownBlock) (.slice (some ad169) l0.length c0) l0) := ⟨h1_⟩
            have n2_ : Aside0 (Kd.N k32 32 w14 w.heap.size (fun k_ => (P0_ k_ ∨ w.heap.size ≤ k_) ∧ some k_ ≠ (v171 : Value).ownBlock) v167 t166) := ⟨h2_⟩
            have n3_ : Aside0 (Kd.N k32 32 w14 w.heap.size (fun k_ => (P0_ k_ ∨ w.heap.size ≤ k_) ∧ some k_ ≠ (v167 : Value).ownBlock) v171 y170) := ⟨h3_⟩
            have n4_ : Aside0 (Below w.heap.size w w14) := ⟨h4_⟩
            clear HO0
            clear HB
            clear h0_ h1_ h2_ h3_ h4_
            have HL169_10 := n0_
            have HO0 := n1_
            have HO168 := n2_
            have HO172 := n3_
            have HB := n4_
            clear n0_ n1_ n2_ n3_ n4_
            have hHeld : w14.cell? (ad169.add ((a1).toNat * 12)) = some (.int .i64 ((rd_T32 l0 a1).f0)) ∧ w14.cell? ⟨(ad169.add ((a1).toNat * 12)).block, (ad169.add ((a1).toNat * 12)).off + 1, none⟩ = some (.int .i64 ((rd_T32 l0 a1).f1)) ∧ w14.cell? ⟨(ad169.add ((a1).toNat * 12)).block, (ad169.add ((a1).toNat * 12)).off + 2, none⟩ = some (.int .i64 ((rd_T32 l0 a1).f2)) ∧ w14.cell? ⟨(ad169.add ((a1).toNat * 12)).block, (ad169.add ((a1).toNat * 12)).off + 3, none⟩ = some (.int .i64 ((rd_T32 l0 a1).f3)) ∧ w14.cell? ⟨(ad169.add ((a1).toNat * 12)).block, (ad169.add ((a1).toNat * 12)).off + 4, none⟩ = some (.int .i64 ((rd_T32 l0 a1).f4)) ∧ w14.cell? ⟨(ad169.add ((a1).toNat * 12)).block, (ad169.add ((a1).toNat * 12)).off + 5, none⟩ = some (.int .i64 ((rd_T32 l0 a1).f5)) ∧ w14.cell? ⟨(ad169.add ((a1).toNat * 12)).block, (ad169.add ((a1).toNat * 12)).off + 6, none⟩ = some (.int .u64 ((rd_T32 l0 a1).f6)) ∧ w14.cell? ⟨(ad169.add ((a1).toNat * 12)).block, (ad169.add ((a1).toNat * 12)).off + 7, none⟩ = some (.int .i64 ((rd_T32 l0 a1).f7.f0)) ∧ w14.cell? ⟨(ad169.add ((a1).toNat * 12)).block, (ad169.add ((a1).toNat * 12)).off + 8, none⟩ = some (.int .i64 ((rd_T32 l0 a1).f7.f1)) ∧ w14.cell? ⟨(ad169.add ((a1).toNat * 12)).block, (ad169.add ((a1).toNat * 12)).off + 9, none⟩ = some (.int .i64 ((rd_T32 l0 a1).f7.f2)) ∧ w14.cell? ⟨(ad169.add ((a1).toNat * 12)).block, (ad169.add ((a1).toNat * 12)).off + 10, none⟩ = some (.slice A169_10 ((rd_T32 l0 a1).f7.f3).length c169_10) ∧ w14.cell? ⟨(ad169.add ((a1).toNat * 12)).block, (ad169.add ((a1).toNat * 12)).off + 11, none⟩ = some (.string ((rd_T32 l0 a1).f8)) := hS_
            obtain ⟨Ao16, co16, eo16⟩ := Kd.N_slice HO172.out
            (first | subst eo16 | (injection eo16 with f1_ f2_ f3_; have f4_ := f1_.symm; have f5_ := f3_.symm; clear f1_ f2_ f3_; subst f4_; subst f5_))
            refine norm_ (a' := ?_) ?_ ?_
            rotate_left
            · simp only [putAll, Act.put, List.setIfInBounds_toArray, List.set_cons_zero, List.set_cons_succ]
              rfl
            refine last_ (i := 7) (N := some 22) #[true, true, true, true, true, true, true, true, false, false] rfl rfl (one_of HT_.out (by kernel_rfl)) (by decide) (fun K hK => ?_)
            refine Kd.N_append_rows_step k32 (w0 := w) w.heap.size (by rfl) (.tmp 16) (.tmp 21) 22 32 (.agg #[(.int .i64 0), (.int .i64 0), (.int .i64 0), (.int .i64 0), (.int .i64 0), (.int .i64 0), (.int .u64 0), (.int .i64 0), (.int .i64 0), (.int .i64 0), (.slice none 0 0), (.string ⟨#[]⟩)]) 120 rfl Try.underlying22 info32 rfl (by decide) (by omega) v167 t166 y170 _ _ _ (fun k_ => (P0_ k_ ∨ w.heap.size ≤ k_)) (fun k_ => ((fun k_ => (P0_ k_ ∨ w.heap.size ≤ k_))) k_ ∧ some k_ ≠ (v167 : Value).ownBlock) rfl rfl ?aO ?aR (fun _ hk => hk) ?aF ?aB ?aS ?aL ?_
            (case aR => exact (by skip; exact Kd.N_F (Kd.N_mono (ok' := (fun k_ => ((fun k_ => (P0_ k_ ∨ w.heap.size ≤ k_))) k_ ∧ some k_ ≠ (v167 : Value).ownBlock)) (HO172.out) (fun k_ hk => ⟨hk.1, hk.2⟩))))
            (case aB => exact (by repeat (first | (with_reducible first | exact HB.out | apply below_alloc | apply pw_below_drewN | apply below_drew1) | exact HB.out)))
            (case aF => exact (fun k_ hk => (.inr (Nat.le_trans (below_size (by repeat (first | (with_reducible first | exact HB.out | apply below_alloc | apply pw_below_drewN | apply below_drew1) | exact HB.out))) hk))))
            (case aO => exact (by (with_reducible repeat (first | apply Kd.N_alloc | apply Kd.N_drewN | apply Kd.N_drew)); exact Kd.N_mono HO168.out (fun _ hk => hk.1)))
            (case aS => exact (below_size (by repeat (first | (with_reducible first | exact HB.out | apply below_alloc | apply pw_below_drewN | apply below_drew1) | exact HB.out))))
            (case aL => have := LMc9.out; omega)
            intro v174 w15 ho hb hg hat
            rw [← Ny173.out] at ho
            have n0_ := Aside0.mk (Kd.V_afterv (ok := (fun k_ => (P0_ k_ ∨ w.heap.size ≤ k_) ∧ some k_ ≠ (.slice Ao16 y170.length co16 : Value).ownBlock)) (by (with_reducible repeat (first | apply Kd.V_alloc | apply Kd.V_drewN | apply Kd.V_drew)); exact Kd.V_mono HO0.out (fun _ hk => ⟨⟨hk.1, hk.2.2⟩, hk.2.1⟩)) hg hat)
            have n1_ := Aside0.mk (Kd.V_afterv (ok := (fun k_ => (P0_ k_ ∨ w.heap.size ≤ k_) ∧ some k_ ≠ (.slice Ao16 y170.length co16 : Value).ownBlock)) (by (with_reducible repeat (first | apply Kd.V_alloc | apply Kd.V_drewN | apply Kd.V_drew)); exact Kd.V_mono HL169_10.out (fun _ hk => ⟨⟨hk.1, hk.2.2⟩, hk.2.1⟩)) hg hat)
            have n2_ := Aside0.mk (Kd.N_afterv (ok := (fun k_ => (P0_ k_ ∨ w.heap.size ≤ k_))) (by (with_reducible repeat (first | apply Kd.N_alloc | apply Kd.N_drewN | apply Kd.N_drew)); exact HO172.out) hg hat)
            have n3_ := Aside0.mk (hb)
            have n4_ := Aside0.mk (ho)
            clear HO0
            clear HL169_10
            clear HO172
            clear HB
            clear HO168
            have HO0 := n0_
            have HL169_10 := n1_
            have HO172 := n2_
            have HB := n3_
            have HO175 := n4_
            clear n0_ n1_ n2_ n3_ n4_
            clear ho hb hg hat
            refine hK.out _ _ ?_
            clear hK K
            refine norm_ (a' := ?_) ?_ ?_
            rotate_left
            · show Act.put _ (some 22) _ = _
              simp only [Act.put, List.setIfInBounds_toArray, List.set_cons_zero, List.set_cons_succ, i64_w, i32_w]
              rfl
            refine pure_ (i := 8) (N := some 4) (v := ?_) (a' := ?_) #[true, true, true, true, true, true, true, true, true, false] rfl rfl (any_of HT_.out (by kernel_rfl)) (fun _ _ _ h => h) (Or.inl ⟨by rfl, ?_⟩) ?_ ?_
            rotate_left
            · intro w'
              go_simp
              with_reducible rfl
            rotate_left
            · simp only [Act.put, List.setIfInBounds_toArray, List.set_cons_zero, List.set_cons_succ, i64_w, i32_w]
              rfl
            refine pure_ (i := 9) (N := some 5) (v := ?_) (a' := ?_) #[true, true, true, true, true, true, true, true, true, true] rfl rfl (any_of HT_.out (by kernel_rfl)) (fun _ _ _ h => h) (Or.inl ⟨by rfl, ?_⟩) ?_ ?_
            rotate_left
            · intro w'
              go_simp
              with_reducible rfl
            rotate_left
            · simp only [Act.put, List.setIfInBounds_toArray, List.set_cons_zero, List.set_cons_succ, i64_w, i32_w]
              rfl
            refine done_ (done_of HT_.out (by kernel_rfl)) ?_
            try go_wp2
            go_ret2
            exact ⟨_, by first | rfl | (simp [errW_none, errW_some] <;> rfl) | (simp [*, errW_none, errW_some] <;> rfl), by (with_reducible repeat (first | apply Kd.N_alloc | apply Kd.N_drewN | apply Kd.N_drew)); exact HO175.out, by repeat (first | (with_reducible first | exact HB.out | apply below_alloc | apply pw_below_drewN | apply below_drew1) | exact HB.out)⟩
          · rw [if_neg c9] at H
            exact absurd H (by simp)
        · rw [if_neg c8] at H
          exact absurd H (by simp)
      · rw [if_neg c7] at H
        exact absurd H (by simp)
  · replace c4 := Bool.eq_false_iff.mpr c4
    subst c4
    have H1 : (some (([] : List (S32)), 8)) = some (r1, r2) := by rw [if_neg (show ¬ (false = true) by decide)] at H; exact H
    clear H
    have H := H1
    clear H1
    simp only [Option.some.injEq, Prod.mk.injEq] at H
    obtain ⟨rfl, rfl⟩ := H
    go_enter Try.func16, Try.ntmps16
    go_wp2_with (first | ((with_reducible refine gate_callee (f := 20) rfl ?_); refine goesL_ (some 9) rfl rfl Try.func20 (by kernel_rfl) rfl #[.slice A0 l0.length c0, .int .i64 a1] rfl (by (try simp only [List.map_toArray, List.map_cons, List.map_nil]); first | done | rfl | (simp only [List.length_drop, List.length_take]; rfl)) ?_; (with_reducible refine (net_has.calls _ _ l0 a1 false _ ?side1 ?side2 A3.out).mono ?_); (case side1 => repeat (first | exact (Kd.V_reads' HO0.out).2.2 | (with_reducible refine Kd.C_alloc ?_ _) | (with_reducible refine Kd.C_drewN ?_ _) | (with_reducible refine Kd.C_drew ?_))); (case side2 => exact (Kd.V_reads' HO0.out).2.1); rintro e w' ⟨rfl, ⟨nd, rfl⟩⟩; refine ⟨_, rfl, ?_⟩))
    go_ret2
    exact ⟨_, by first | rfl | (simp [errW_none, errW_some] <;> rfl) | (simp [*, errW_none, errW_some] <;> rfl), by first | exact Kd.R_nil _ _ _ _ _ | exact Kd.N_nil _ _ _ _ _ | exact Kd.V_nil _ _ _ _ _ | exact Kd.Q_nil _ _ _ _ _ | exact Kd.S_nil _ _ _ _ _, by repeat (first | (with_reducible first | exact HB.out | apply below_alloc | apply pw_below_drewN | apply below_drew1) | exact HB.out)⟩

end Go.Proofs.Ytcpnmlmghjhelaa.F
