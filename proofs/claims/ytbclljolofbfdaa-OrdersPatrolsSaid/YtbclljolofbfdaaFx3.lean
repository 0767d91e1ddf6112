/- Functions that the laws of this seat reach: for each a plain function, and a proof that the Go code comes to its answers. Out of the kit's print program; mended by hand where it fell. -/
import Derived.Test.YtbclljolofbfdaaFx0
import Derived.Test.YtbclljolofbfdaaBld
namespace Go.Proofs.Ytbclljolofbfdaa.F
open Go.RowKit Go.Proofs.YtbclljolofbfdaaW.PrintWords Go.Proofs.YtbclljolofbfdaaW.PrintLast Go.Proofs.YtbclljolofbfdaaW.PrintMore
attribute [local go_sem] max2_int min2_int max_two min_two max_three min_three max_four min_four   -- for this text's walks alone
set_option linter.unusedVariables false
set_option linter.unusedSimpArgs false

-- NOT PRINTED: function 59 (abi_NoEscape)

-- NOT PRINTED: function 48 (strings_Builder_copyCheck)

-- NOT PRINTED: function 26 (strings_Builder_WriteString)

/-! ### wire_Uint: function 27 -/
def wire_Uint.l0 : Nat → Int → List Int → Option (ByteArray)
  | 0, _, _ => none
  | k + 1, x0, x3 => if x0 ≥ 128 then (if x3.length < 140737488355328 then (wire_Uint.l0 k (IntKind.u64.wrap (Int.tdiv x0 128)) (x3 ++ [(((Int.tmod x0 128) % 256) + 128) % 256])) else (none)) else (if x3.length < 140737488355328 then (some (strOfNums (x3 ++ [(x0) % 256]))) else (none))
def wire_Uint.f (k : Nat) (a0 : Int) : Option (ByteArray) := wire_Uint.l0 k a0 ([] : List Int)
theorem wire_Uint.mono_l : ∀ k, (∀ y0 y1, LeO (wire_Uint.l0 k y0 y1) (wire_Uint.l0 (k + 1) y0 y1))
  | 0 => fun _ _ r h => by simp [wire_Uint.l0] at h
  | k + 1 => by
    have ih0 := wire_Uint.mono_l k
    · intro y0 y1
      unfold wire_Uint.l0
      repeat' first
      | (with_reducible exact ih0 _ _)
      | (with_reducible exact LeO.refl _)
      | (with_reducible exact LeO.none _)
      | (with_reducible refine LeO.ite ?_ ?_)
      | (with_reducible refine LeO.bind ?_ (fun _ => ?_))
      | exact ih0 _ _
      | exact LeO.none _
      | refine LeO.ite ?_ ?_
      | refine LeO.bind ?_ (fun _ => ?_)
theorem wire_Uint.mono : ∀ a0 k, LeO (wire_Uint.f k a0) (wire_Uint.f (k + 1) a0) := by
  intro a0 k
  have ih0 := wire_Uint.mono_l k
  unfold wire_Uint.f
  repeat' first
      | (with_reducible exact ih0 _ _)
      | (with_reducible exact LeO.refl _)
      | (with_reducible exact LeO.none _)
      | (with_reducible refine LeO.ite ?_ ?_)
      | (with_reducible refine LeO.bind ?_ (fun _ => ?_))
      | exact ih0 _ _
      | exact LeO.none _
      | refine LeO.ite ?_ ?_
      | refine LeO.bind ?_ (fun _ => ?_)
set_option maxHeartbeats 8000000 in
set_option maxRecDepth 100000 in
theorem wire_Uint.calls (k : Nat) (a0 : Int) (r : ByteArray) (w : World) (h : wire_Uint.f k a0 = some r) :
    Calls Try.prog 27 #[.int .u64 a0] w fun e w' => e = .returned (.string r) ∧ Below w.heap.size w w' := by
  obtain ⟨i5, hi5, hz5, hs5, hb5⟩ := info_parts info5
  have Hi5 := Aside0.mk hi5
  have Hz5 := Aside0.mk hz5
  have Hs5 := Aside0.mk hs5
  have Hb5 := Aside0.mk hb5
  clear hi5 hz5 hs5 hb5
  have HB := Aside0.mk (Below.refl w.heap.size w)
  have H : (wire_Uint.l0 k a0 ([] : List Int)) = some r := h
  clear h
  have H' := Aside0.mk H
  clear H
  go_enter Try.func27, Try.ntmps27
  go_wp2
  go_loopg [0, 3] k (fun kq v0 v3 w' => ∃ (x0_1 : Int) (x3_1 : List Int), v0 = .int .u64 x0_1 ∧ Aside0 (wire_Uint.l0 kq x0_1 x3_1 = some r) ∧ Aside0 (kq ≤ k) ∧ Aside0 (Kd.R (Kd.int .u8) 5 w' w.heap.size (fun _ => True) v3 x3_1) ∧ Aside0 (Below w.heap.size w w'))
  case atStart => exact ⟨(a0), (([] : List Int)), (by first | rfl | (simp; done) | (simp [*]; done)), H', ⟨Nat.le_refl _⟩, ⟨by first | exact Kd.R_nil _ _ _ _ _ | exact Kd.N_nil _ _ _ _ _ | exact Kd.V_nil _ _ _ _ _ | exact Kd.Q_nil _ _ _ _ _ | exact Kd.S_nil _ _ _ _ _⟩, ⟨by repeat (first | (with_reducible first | exact HB.out | apply below_alloc | apply pw_below_drewN | apply below_drew1) | exact HB.out)⟩⟩
  case round =>
    clear H'
    try clear c1
    obtain ⟨x0_1, x3_1, rfl, HA, HK1, HO_3, HB⟩ := hrel
    cases gk with
    | zero => exact absurd HA.out (by simp [wire_Uint.l0])
    | succ k1 =>
      have H := HA.out
      clear HA
      simp only [wire_Uint.l0] at H
      by_cases c2 : x0_1 ≥ 128
      · rw [if_pos c2] at H
        have c2b0 : decide (128 ≤ x0_1) = true := decide_eq_true c2
        clear c2
        by_cases c3 : x3_1.length < 140737488355328
        · rw [if_pos c3] at H
          have LMc3 := Aside0.mk c3
          clear c3
          rw [Int.emod_add_emod] at H
          obtain ⟨y101, hy101⟩ : ∃ y_ : List Int, y_ = (x3_1 ++ [(Int.tmod x0_1 128 + 128) % 256]) := ⟨_, rfl⟩
          replace H : (wire_Uint.l0 k1 (IntKind.u64.wrap (Int.tdiv x0_1 128)) y101) = some r := by first | (rw [hy101]; with_reducible exact H) | exact H
          have Ny101 := Aside0.mk hy101
          clear hy101
          have H' := Aside0.mk H
          clear H
          go_wp2_with (first | ((with_reducible refine gate_builtin (b := .append) (xs := #[.tmp 6, .tmp 11]) rfl ?_); at_builtin; refine Kd.R_append (Kd.int .u8) (w0 := w) w.heap.size rfl (.tmp 6) (.tmp 11) 46 5 (.int .u8 0) 1 rfl Try.underlying46 info5 rfl (by decide) (by omega) u3 x3_1 ((Int.tmod x0_1 128 + 128) % 256) [.int .u8 ((Int.tmod x0_1 128 + 128) % 256)] (fun _ => True) (fun _ => False) rfl rfl ?aP (fun _ hk => hk.elim) ?aF ?aO ?aB ?aS ?aL ?_; (case aP => exact rfl); (case aB => exact (by repeat (first | (with_reducible first | exact HB.out | apply below_alloc | apply pw_below_drewN | apply below_drew1) | exact HB.out))); (case aF => exact (fun _ _ => trivial)); (case aO => exact (by (with_reducible repeat (first | apply Kd.R_alloc | apply Kd.R_drewN | apply Kd.R_drew)); exact HO_3.out)); (case aS => exact (below_size (by repeat (first | (with_reducible first | exact HB.out | apply below_alloc | apply pw_below_drewN | apply below_drew1) | exact HB.out)))); (case aL => have := LMc3.out; omega); intro v102 w4 ho hb hg hat; rw [← Ny101.out] at ho; have n0_ := Aside0.mk (hb); have n1_ := Aside0.mk (ho); clear HB; clear HO_3; have HB := n0_; have HO103 := n1_; clear n0_ n1_; clear ho hb hg hat))
          go_roundg k1
          case measure => have := HK1.out; omega
          case rel => exact ⟨(IntKind.u64.wrap (Int.tdiv x0_1 128)), (y101), (by first | rfl | (simp; done) | (simp [*]; done)), H', ⟨by have := HK1.out; omega⟩, ⟨by (with_reducible repeat (first | apply Kd.R_alloc | apply Kd.R_drewN | apply Kd.R_drew)); exact HO103.out⟩, ⟨by repeat (first | (with_reducible first | exact HB.out | apply below_alloc | apply pw_below_drewN | apply below_drew1) | exact HB.out)⟩⟩
        · rw [if_neg c3] at H
          exact absurd H (by simp)
      · rw [if_neg c2] at H
        have c2b0 : decide (128 ≤ x0_1) = false := decide_eq_false c2
        clear c2
        by_cases c5 : x3_1.length < 140737488355328
        · rw [if_pos c5] at H
          have LMc5 := Aside0.mk c5
          clear c5
          have Hr := Aside0.mk (Option.some.inj H)
          clear H
          have Hown := Aside0.mk (Kd.own_of_R HO_3.out)
          clear HO_3
          obtain ⟨hlx, hcase⟩ := Hown.out
          clear hlx
          rcases hcase with ⟨rfl, hn⟩ | ⟨g, cap, cur, rfl, hgb, hcells, hnc, hcm, hcs, htake⟩
          · obtain rfl : x3_1 = [] := List.eq_nil_of_length_eq_zero hn
            clear hn
            go_wp2_with (first | ((with_reducible refine gate_builtin (b := .append) (xs := #[.tmp 20, .tmp 23]) rfl ?_); at_builtin; refine wpList_append_grows _ rfl (.tmp 20) (.tmp 23) 46 rfl 5 i5 (.int .u8 0) 1 1 Try.underlying46 Hi5.out Hz5.out Hs5.out Hb5.out rfl (by decide) none 0 0 [] rfl (fun _ => ⟨rfl, rfl⟩) rfl (fun _ e => by cases e) ⟨wr.heap.size, 0, none⟩ 1 1 [.int .u8 (x0_1 % 256)] rfl rfl ?c1 ?c2 (by decide) (by decide) (by decide) ?_; (case c1 => exact cell_one_new _ _ _); (case c2 => simp [Value.oneCell']); intro v105 w7 hown hg; have HO := Aside0.mk hown; have HG := Aside0.mk hg; clear hown hg; have hcv := own_string (P := Try.prog) (xs := [x0_1 % 256]) Try.underlying46 Try.underlying5 Try.underlying9 HO.out))
            go_ret
            exact ⟨by rw [← Hr.out]; rfl, (below_alloc HB.out _).grown HG.out (below_alloc HB.out _).size (fun k hk => by cases hk)⟩
          · have Hnc := Aside0.mk hnc
            clear hcells htake hcs hcm hgb hnc
            have hsl : ∀ wx, (Instr.slice 46 (.slice (some ⟨g, 0, none⟩) x3_1.length cap) none (some (.int .i64 x3_1.length)) (some (.int .i64 x3_1.length))).run Try.prog wx = .ok (.slice (some ⟨g, 0, none⟩) x3_1.length x3_1.length) wx := by
              intro wx
              have hel : Try.prog.elem 46 = 5 := by kernel_rfl
              have hsz : (sizeOf 5).run Try.prog wx = .ok 1 wx := by simp [sizeOf, typeInfo, Hi5.out, Hs5.out]
              have hcap := Hnc.out
              rw [run_slice_hm wx 46 _ _ _ (by rw [hel]; exact Try.underlying46) .i64 .i64 _ _ (by omega) (by omega) (by omega), hel, hsz]
              have ha : (⟨g, 0, none⟩ : Addr).add 0 = ⟨g, 0, none⟩ := by unfold Addr.add; split <;> simp_all
              simp [Result.andThen, sliced, ha]
            go_wp2_with (first | ((with_reducible refine gate_builtin (b := .append) (xs := #[.tmp 20, .tmp 23]) rfl ?_); at_builtin; refine wpList_append_grows _ rfl (.tmp 20) (.tmp 23) 46 rfl 5 i5 (.int .u8 0) 1 1 Try.underlying46 Hi5.out Hz5.out Hs5.out Hb5.out rfl (by decide) (some ⟨g, 0, none⟩) x3_1.length x3_1.length (encs (Value.int .u8) x3_1) rfl (fun h => by cases h) ?c0 ?ch ⟨wr.heap.size, 0, none⟩ 1 1 [.int .u8 (x0_1 % 256)] rfl rfl ?c1 ?c2 ?c3 ?c4 ?c5 ?_; (case c0 => simp [encs]); (case ch => intro b hb j u hj; cases hb; exact (Hown.out.alloc _).cells (g := g) rfl j u hj); (case c1 => exact cell_one_new _ _ _); (case c2 => simp [Value.oneCell']); (case c3 => omega); (case c4 => have := LMc5.out; unfold maxLen; omega); (case c5 => have := LMc5.out; omega); intro v105 w7 hown hg; have HO := Aside0.mk hown; have HG := Aside0.mk hg; clear hown hg; have hcv := own_string (P := Try.prog) (xs := x3_1 ++ [x0_1 % 256]) Try.underlying46 Try.underlying5 Try.underlying9 (by rw [nums, List.map_append]; exact HO.out)))
            go_ret
            exact ⟨by rw [← Hr.out]; rfl, (below_alloc HB.out _).grown HG.out (below_alloc HB.out _).size (fun k hk => by cases hk)⟩
        · rw [if_neg c5] at H
          exact absurd H (by simp)
/-! ### wire_Int: function 49 -/
def wire_Int.f (k : Nat) (a0 : Int) : Option (ByteArray) := (wire_Uint.f k (Go.bits .xor .u64 (IntKind.u64.wrap ((IntKind.u64.wrap (a0)) * 2)) (IntKind.u64.wrap (a0 / 9223372036854775808)))).bind fun t107 => (some t107)
theorem wire_Int.mono : ∀ a0 k, LeO (wire_Int.f k a0) (wire_Int.f (k + 1) a0) := by
  intro a0 k
  unfold wire_Int.f
  repeat' first
      | (with_reducible exact wire_Uint.mono _ _)
      | (with_reducible exact LeO.refl _)
      | (with_reducible exact LeO.none _)
      | (with_reducible refine LeO.ite ?_ ?_)
      | (with_reducible refine LeO.bind ?_ (fun _ => ?_))
      | exact wire_Uint.mono _ _
      | exact LeO.none _
      | refine LeO.ite ?_ ?_
      | refine LeO.bind ?_ (fun _ => ?_)
set_option maxHeartbeats 8000000 in
set_option maxRecDepth 100000 in
theorem wire_Int.calls (k : Nat) (a0 : Int) (r : ByteArray) (w : World) (h : wire_Int.f k a0 = some r) :
    Calls Try.prog 49 #[.int .i64 a0] w fun e w' => e = .returned (.string r) ∧ Below w.heap.size w w' := by
  have HB := Aside0.mk (Below.refl w.heap.size w)
  have H : ((wire_Uint.f k (Go.bits .xor .u64 (IntKind.u64.wrap ((IntKind.u64.wrap (a0)) * 2)) (IntKind.u64.wrap (a0 / 9223372036854775808)))).bind fun t107 => (some t107)) = some r := h
  clear h
  replace H := Option.bind_eq_some_iff.mp H
  obtain ⟨t107, A20, H⟩ := H
  replace H : (some t107) = some r := H
  have A2 := Aside0.mk A20
  clear A20
  obtain rfl := Option.some.inj H
  go_enter Try.func49, Try.ntmps49
  go_wp2_with (first | ((with_reducible refine gate_callee (f := 27) rfl ?_); refine goesL_ (some 10) rfl rfl Try.func27 (by kernel_rfl) rfl #[.int .u64 (Go.bits .xor .u64 (IntKind.u64.wrap ((IntKind.u64.wrap (a0)) * 2)) (IntKind.u64.wrap (a0 / 9223372036854775808)))] rfl (by (try simp only [List.map_toArray, List.map_cons, List.map_nil]); first | done | rfl | (simp only [List.length_drop, List.length_take]; rfl)) ?_; (with_reducible refine (wire_Uint.calls k (Go.bits .xor .u64 (IntKind.u64.wrap ((IntKind.u64.wrap (a0)) * 2)) (IntKind.u64.wrap (a0 / 9223372036854775808))) t107 _ A2.out).mono ?_); rintro e w3 ⟨rfl, hb⟩; refine ⟨_, rfl, ?_⟩; have n0_ := Aside0.mk (below_step (by repeat (first | (with_reducible first | exact HB.out | apply below_alloc | apply pw_below_drewN | apply below_drew1) | exact HB.out)) hb); clear HB; have HB := n0_; clear n0_; (try clear hb); (try clear hb2); (try clear hk); (try clear hi)))
  go_ret
  exact ⟨by first | rfl | (simp [errW_none, errW_some] <;> rfl) | (simp [*, errW_none, errW_some] <;> rfl), by repeat (first | (with_reducible first | exact HB.out | apply below_alloc | apply pw_below_drewN | apply below_drew1) | exact HB.out)⟩

-- NOT PRINTED: function 28 (orders_write)

/-! ### wire_Text: function 33 -/
def wire_Text.f (k : Nat) (a0 : ByteArray) : Option (ByteArray) := (wire_Uint.f k (IntKind.u64.wrap ((a0.size : Int)))).bind fun t108 => (if t108.size + a0.size ≤ 9223372036854775807 then (some (t108 ++ a0)) else (none))
theorem wire_Text.mono : ∀ a0 k, LeO (wire_Text.f k a0) (wire_Text.f (k + 1) a0) := by
  intro a0 k
  unfold wire_Text.f
  repeat' first
      | (with_reducible exact wire_Uint.mono _ _)
      | (with_reducible exact LeO.refl _)
      | (with_reducible exact LeO.none _)
      | (with_reducible refine LeO.ite ?_ ?_)
      | (with_reducible refine LeO.bind ?_ (fun _ => ?_))
      | exact wire_Uint.mono _ _
      | exact LeO.none _
      | refine LeO.ite ?_ ?_
      | refine LeO.bind ?_ (fun _ => ?_)
set_option maxHeartbeats 8000000 in
set_option maxRecDepth 100000 in
theorem wire_Text.calls (k : Nat) (a0 : ByteArray) (r : ByteArray) (w : World) (h : wire_Text.f k a0 = some r) :
    Calls Try.prog 33 #[.string a0] w fun e w' => e = .returned (.string r) ∧ Below w.heap.size w w' := by
  have HB := Aside0.mk (Below.refl w.heap.size w)
  have H : ((wire_Uint.f k (IntKind.u64.wrap ((a0.size : Int)))).bind fun t108 => (if t108.size + a0.size ≤ 9223372036854775807 then (some (t108 ++ a0)) else (none))) = some r := h
  clear h
  replace H := Option.bind_eq_some_iff.mp H
  obtain ⟨t108, A20, H⟩ := H
  replace H : (if t108.size + a0.size ≤ 9223372036854775807 then (some (t108 ++ a0)) else (none)) = some r := H
  have A2 := Aside0.mk A20
  clear A20
  by_cases c3 : t108.size + a0.size ≤ 9223372036854775807
  · rw [if_pos c3] at H
    have c3b0 := eq_true c3
    have c3b1 : decide (t108.size + a0.size ≤ 9223372036854775807) = true := decide_eq_true c3
    try have c3b2 : (9223372036854775807 < t108.size + a0.size) = False := eq_false (Nat.not_lt.2 c3)
    obtain rfl := Option.some.inj H
    rw [show IntKind.u64.wrap (a0.size : Int) = (a0.size : Int) from by rw [IntKind.wrap_u64]; omega] at A2
    go_enter Try.func33, Try.ntmps33
    go_wp2_with (first | ((with_reducible refine gate_callee (f := 27) rfl ?_); refine goesL_ (some 6) rfl rfl Try.func27 (by kernel_rfl) rfl #[.int .u64 (a0.size : Int)] rfl (by (try simp only [List.map_toArray, List.map_cons, List.map_nil]); first | done | rfl | (simp only [List.length_drop, List.length_take]; rfl)) ?_; (with_reducible refine (wire_Uint.calls k (a0.size : Int) t108 _ A2.out).mono ?_); rintro e w4 ⟨rfl, hb⟩; refine ⟨_, rfl, ?_⟩; have n0_ := Aside0.mk (below_step (by repeat (first | (with_reducible first | exact HB.out | apply below_alloc | apply pw_below_drewN | apply below_drew1) | exact HB.out)) hb); clear HB; have HB := n0_; clear n0_; (try clear hb); (try clear hb2); (try clear hk); (try clear hi)))
    go_ret
    exact ⟨by first | rfl | (simp [errW_none, errW_some] <;> rfl) | (simp [*, errW_none, errW_some] <;> rfl), by repeat (first | (with_reducible first | exact HB.out | apply below_alloc | apply pw_below_drewN | apply below_drew1) | exact HB.out)⟩
  · rw [if_neg c3] at H
    exact absurd H (by simp)

-- NOT PRINTED: function 34 (strings_Builder_String)

/-! ### orders_Encode: function 11 -/
def orders_Encode.l0 : Nat → List (S28) → ByteArray → Int → Option (ByteArray)
  | 0, _, _, _ => none
  | k + 1, x0, x3, x4 => if x4 < (x0.length : Int) then (if 0 ≤ x4 then ((wire_Int.f k ((rd_T28 x0 x4).f0)).bind fun t112 => (if x3.size + t112.size ≤ 140737488355328 then ((wire_Int.f k ((rd_T28 x0 x4).f1.f0)).bind fun t113 => (if (x3 ++ t112).size + t113.size ≤ 140737488355328 then ((wire_Int.f k ((rd_T28 x0 x4).f1.f1)).bind fun t114 => (if ((x3 ++ t112) ++ t113).size + t114.size ≤ 140737488355328 then ((wire_Int.f k ((rd_T28 x0 x4).f2)).bind fun t115 => (if (((x3 ++ t112) ++ t113) ++ t114).size + t115.size ≤ 140737488355328 then ((wire_Text.f k ((rd_T28 x0 x4).f3)).bind fun t116 => (if ((((x3 ++ t112) ++ t113) ++ t114) ++ t115).size + t116.size ≤ 140737488355328 then (orders_Encode.l0 k x0 (((((x3 ++ t112) ++ t113) ++ t114) ++ t115) ++ t116) (wrap64 (x4 + 1))) else (none))) else (none))) else (none))) else (none))) else (none))) else (none)) else (some x3)
def orders_Encode.f (k : Nat) (l0 : List (S28)) : Option (ByteArray) := (wire_Uint.f k (IntKind.u64.wrap ((l0.length : Int)))).bind fun t109 => (if t109.size ≤ 140737488355328 then (orders_Encode.l0 k l0 t109 0) else (none))
theorem orders_Encode.mono_l : ∀ k, (∀ y0 y1 y2, LeO (orders_Encode.l0 k y0 y1 y2) (orders_Encode.l0 (k + 1) y0 y1 y2))
  | 0 => fun _ _ _ r h => by simp [orders_Encode.l0] at h
  | k + 1 => by
    have ih0 := orders_Encode.mono_l k
    · intro y0 y1 y2
      unfold orders_Encode.l0
      repeat' first
      | (with_reducible exact ih0 _ _ _)
      | (with_reducible exact wire_Int.mono _ _)
      | (with_reducible exact wire_Text.mono _ _)
      | (with_reducible exact wire_Uint.mono _ _)
      | (with_reducible exact LeO.refl _)
      | (with_reducible exact LeO.none _)
      | (with_reducible refine LeO.ite ?_ ?_)
      | (with_reducible refine LeO.bind ?_ (fun _ => ?_))
      | exact ih0 _ _ _
      | exact wire_Int.mono _ _
      | exact wire_Text.mono _ _
      | exact wire_Uint.mono _ _
      | exact LeO.none _
      | refine LeO.ite ?_ ?_
      | refine LeO.bind ?_ (fun _ => ?_)
theorem orders_Encode.mono : ∀ a0 k, LeO (orders_Encode.f k a0) (orders_Encode.f (k + 1) a0) := by
  intro a0 k
  have ih0 := orders_Encode.mono_l k
  unfold orders_Encode.f
  repeat' first
      | (with_reducible exact ih0 _ _ _)
      | (with_reducible exact wire_Int.mono _ _)
      | (with_reducible exact wire_Text.mono _ _)
      | (with_reducible exact wire_Uint.mono _ _)
      | (with_reducible exact LeO.refl _)
      | (with_reducible exact LeO.none _)
      | (with_reducible refine LeO.ite ?_ ?_)
      | (with_reducible refine LeO.bind ?_ (fun _ => ?_))
      | exact ih0 _ _ _
      | exact wire_Int.mono _ _
      | exact wire_Text.mono _ _
      | exact wire_Uint.mono _ _
      | exact LeO.none _
      | refine LeO.ite ?_ ?_
      | refine LeO.bind ?_ (fun _ => ?_)
/-- A call through a function value that stands in a slot. -/
theorem goesV_ {ops : Array Oper} {Q : Exit → Act → World → Prop} {rest : List Oper} {oi : Oper} {a : Act} {w : World} (N : Option Tmp) (hd : oi.dst = N) (hg : oi.guard = none) {f : FuncId} {fn : Func} {x : Operand} {cap : Array Value} {xs : Array Operand} {ts : Array TypeId} (hf : Try.prog.funcs[f]? = some fn) (hname : (fn.name == "runtime.NumGoroutine") = false) (hb : fn.body.isSome = true) (args : Array Value)
    (hop : oi.op = .call { callee := .value x, args := xs, argTypes := ts }) (hx : a.eval x = .func (.func f) #[] cap) (hargs : xs.map a.eval ++ cap = args)
    (h : Calls Try.prog f args w fun e w' => ∃ v, e = .returned v ∧ wpList Try.prog ops Q rest (a.put N v) w') : wpList Try.prog ops Q (oi :: rest) a w := by
  refine wpList_plain hg fun K hK => ?_
  have he := enters_ hf hname hb args w
  have hrun : (execOp a.eval oi).run Try.prog w = .ok (.enter f args) w := by
    unfold execOp
    simp [hop, hx, resolve, Deferred.ofValue, invoke, hargs, he]
  unfold Oper.wp
  rw [hrun, Oper.upon_enter]
  refine h.mono fun e w'' hh => ?_
  obtain ⟨v, rfl, hk⟩ := hh
  subst hd
  exact hK _ _ hk
theorem builder_below {b B : Nat} {p : Value} {bs : List Value} {w w' : World} (h : Lib.BuilderAtF 48 5 B b p bs w) (hb : Below w.heap.size w w') : Lib.BuilderAtF 48 5 B b p bs w' := by
  have hlt := h.lt
  obtain ⟨hB, v, hbk, hown, hne⟩ := h
  refine ⟨hB, v, (hb.block b hlt).trans hbk, ⟨hown.1, ?_⟩, hne⟩
  rcases hown.2 with h0 | ⟨g, cap, cur, fz, hv, hg, hc, h1, h2, h3, h4⟩
  · exact .inl h0
  · refine .inr ⟨g, cap, cur, fz, hv, hg, (hb.block g ?_).trans hc, h1, h2, h3, h4⟩
    rcases Nat.lt_or_ge g w.heap.size with h' | h'
    · exact h'
    · simp [Array.getElem?_eq_none h'] at hc
theorem isBuilder_below {b B : Nat} {bs : List Value} {w w' : World} (h : Lib.IsBuilderF 48 5 B b bs w) (hb : Below w.heap.size w w') : Lib.IsBuilderF 48 5 B b bs w' := by
  rcases h with h | h
  · exact .inl (builder_below h hb)
  · exact .inr (builder_below h hb)
theorem isBuilder_lt {b B : Nat} {bs : List Value} {w : World} (h : Lib.IsBuilderF 48 5 B b bs w) : b < w.heap.size := by
  rcases h with h | h
  · exact h.lt
  · exact h.lt
theorem others_below {b : Option Nat} {w w' : World} (hb : Below w.heap.size w w') : Lib.OthersKept 5 b w w' := fun k o ho _ _ => by
  have hlt : k < w.heap.size := by
    rcases Nat.lt_or_ge k w.heap.size with h' | h'
    · exact h'
    · rw [Array.getElem?_eq_none h'] at ho
      cases ho
  rw [hb.block k hlt]
  exact ho
theorem cells_ne {F : Array Value} (c : Array Value) (fz : Nat × Nat) : Obj.cells F 28 (0, 0) ≠ .cells c 5 fz := fun h => by
  injection h with _ h2 _
  exact absurd h2 (by decide)
theorem strCells_append (a b : ByteArray) : Lib.strCells a ++ Lib.strCells b = Lib.strCells (a ++ b) := by
  show a.data.toList.map _ ++ b.data.toList.map _ = (a ++ b).data.toList.map _
  rw [ByteArray.data_append, Array.toList_append, List.map_append]
theorem strCells_len (a : ByteArray) : (Lib.strCells a).length = a.size := by
  exact Lib.strCells_length a
theorem below_weak {B : Nat} {w W : World} (h : Below w.heap.size w W) (hB : B ≤ w.heap.size) : Below B w W := ⟨h.os, h.tape, h.output, h.size, fun i hi => h.block i (Nat.lt_of_lt_of_le hi hB)⟩
set_option maxHeartbeats 8000000 in
set_option maxRecDepth 100000 in
/-- orders.write, handed a function that answers n: n's encoding is written behind what the builder holds. -/
theorem orders_write.calls (k g : Nat) (fn : Func) (hf : Try.prog.funcs[g]? = some fn) (hname : (fn.name == "runtime.NumGoroutine") = false) (hbody : fn.body.isSome = true) (B b : Nat) (x : ByteArray) (b0 b1 b2 b3 n : Int) (b4 s : ByteArray) (w : World)
    (hg : ∀ W, Calls Try.prog g #[.agg #[.int .i64 b0, .int .i64 b1, .int .i64 b2, .int .i64 b3, .string b4]] W fun e w' => e = .returned (.int .i64 n) ∧ Below W.heap.size W w')
    (h : wire_Int.f k n = some s) (hbd : Lib.IsBuilderF 48 5 B b (Lib.strCells x) w) (hB : B ≤ w.heap.size) (hlen : x.size + s.size ≤ 140737488355328) :
    Calls Try.prog 28 #[.pointer (some ⟨b, 0, none⟩), .agg #[.int .i64 b0, .int .i64 b1, .int .i64 b2, .int .i64 b3, .string b4], .func (.func g) #[] #[]] w fun e w' =>
      e = .returned (.tuple #[]) ∧ Lib.IsBuilderF 48 5 B b (Lib.strCells (x ++ s)) w' ∧ Below B w w' ∧ Lib.OthersKept 5 (some b) w w' := by
  have hu28 := Try.underlying28
  have HB := Aside0.mk (Below.refl w.heap.size w)
  have HBD := Aside0.mk hbd
  have HN := Aside0.mk h
  have HL := Aside0.mk hlen
  have HBB := Aside0.mk hB
  have HG := Aside0.mk hg
  clear hbd h hlen hB hg
  go_enter Try.func28, Try.ntmps28
  go_wp2_with (first
    | ((with_reducible refine gate_callee (f := 49) rfl ?_); refine goesL_ (some 10) rfl rfl Try.func49 (by kernel_rfl) rfl #[.int .i64 n] rfl (by (try simp only [List.map_toArray, List.map_cons, List.map_nil]); first | done | rfl) ?_; (with_reducible refine (wire_Int.calls k n s _ HN.out).mono ?_); rintro e w7 ⟨rfl, hb⟩; refine ⟨_, rfl, ?_⟩; have n0_ := Aside0.mk (below_step (by repeat (first | (with_reducible first | exact HB.out | apply below_alloc | apply pw_below_drewN | apply below_drew1) | exact HB.out)) hb); clear HB; have HB := n0_; clear n0_ hb)
    | ((with_reducible refine gate_callee (f := 26) rfl ?_); refine goesL_ (some 11) rfl rfl Try.func26 (by kernel_rfl) rfl #[.pointer (some ⟨b, 0, none⟩), .string s] rfl (by (try simp only [List.map_toArray, List.map_cons, List.map_nil]); first | done | rfl) ?_; (refine (Bld.write B b (Lib.strCells x) s _ (isBuilder_below HBD.out (by repeat (first | (with_reducible first | exact HB.out | apply below_alloc | apply pw_below_drewN | apply below_drew1) | exact HB.out))) (by rw [strCells_len]; exact HL.out) (Nat.le_trans HBB.out (below_size (by repeat (first | (with_reducible first | exact HB.out | apply below_alloc | apply pw_below_drewN | apply below_drew1) | exact HB.out))))).mono ?_); rintro e w8 ⟨rfl, hbd2, hb2, hok2⟩; refine ⟨_, rfl, ?_⟩; rw [strCells_append] at hbd2; have HBD2 := Aside0.mk hbd2; have HOK2 := Aside0.mk ((others_below (by repeat (first | (with_reducible first | exact HB.out | apply below_alloc | apply pw_below_drewN | apply below_drew1) | exact HB.out))).trans hok2); have HB2 := Aside0.mk ((below_weak (by repeat (first | (with_reducible first | exact HB.out | apply below_alloc | apply pw_below_drewN | apply below_drew1) | exact HB.out)) HBB.out).trans hb2); clear hbd2 hb2 hok2)
    | ((with_reducible refine gate_dst (N := 9) rfl ?_); refine goesV_ (some 9) rfl rfl hf hname hbody #[.agg #[.int .i64 b0, .int .i64 b1, .int .i64 b2, .int .i64 b3, .string b4]] rfl (by first | rfl | (simp; done)) (by first | rfl | (simp only [List.map_toArray, List.map_cons, List.map_nil]; rfl)) ?_; (refine (HG.out _).mono ?_); rintro e w6 ⟨rfl, hb⟩; refine ⟨_, rfl, ?_⟩; have n0_ := Aside0.mk (below_step (by repeat (first | (with_reducible first | exact HB.out | apply below_alloc | apply pw_below_drewN | apply below_drew1) | exact HB.out)) hb); clear HB; have HB := n0_; clear n0_ hb))
  go_end0
  exact ⟨rfl, .inr HBD2.out, HB2.out, HOK2.out⟩
set_option maxHeartbeats 4000000 in
theorem field_29.calls (b0 b1 b2 b3 : Int) (b4 : ByteArray) (w : World) : Calls Try.prog 29 #[.agg #[.int .i64 b0, .int .i64 b1, .int .i64 b2, .int .i64 b3, .string b4]] w fun e w' => e = .returned (.int .i64 b0) ∧ Below w.heap.size w w' := by
  have HB := Aside0.mk (Below.refl w.heap.size w)
  have hu28 := Try.underlying28
  go_enter Try.func29, Try.ntmps29
  go_wp2
  go_ret
  exact ⟨by first | rfl | (simp; done), (by repeat (first | (with_reducible first | exact HB.out | apply below_alloc | apply pw_below_drewN | apply below_drew1 | refine below_set ?_ GE.out | refine below_set ?_ GED.out) | exact HB.out))⟩
set_option maxHeartbeats 4000000 in
theorem field_30.calls (b0 b1 b2 b3 : Int) (b4 : ByteArray) (w : World) : Calls Try.prog 30 #[.agg #[.int .i64 b0, .int .i64 b1, .int .i64 b2, .int .i64 b3, .string b4]] w fun e w' => e = .returned (.int .i64 b1) ∧ Below w.heap.size w w' := by
  have HB := Aside0.mk (Below.refl w.heap.size w)
  have hu28 := Try.underlying28
  go_enter Try.func30, Try.ntmps30
  go_wp2
  go_ret
  exact ⟨by first | rfl | (simp; done), (by repeat (first | (with_reducible first | exact HB.out | apply below_alloc | apply pw_below_drewN | apply below_drew1 | refine below_set ?_ GE.out | refine below_set ?_ GED.out) | exact HB.out))⟩
set_option maxHeartbeats 4000000 in
theorem field_31.calls (b0 b1 b2 b3 : Int) (b4 : ByteArray) (w : World) : Calls Try.prog 31 #[.agg #[.int .i64 b0, .int .i64 b1, .int .i64 b2, .int .i64 b3, .string b4]] w fun e w' => e = .returned (.int .i64 b2) ∧ Below w.heap.size w w' := by
  have HB := Aside0.mk (Below.refl w.heap.size w)
  have hu28 := Try.underlying28
  go_enter Try.func31, Try.ntmps31
  go_wp2
  go_ret
  exact ⟨by first | rfl | (simp; done), (by repeat (first | (with_reducible first | exact HB.out | apply below_alloc | apply pw_below_drewN | apply below_drew1 | refine below_set ?_ GE.out | refine below_set ?_ GED.out) | exact HB.out))⟩
set_option maxHeartbeats 4000000 in
theorem field_32.calls (b0 b1 b2 b3 : Int) (b4 : ByteArray) (w : World) : Calls Try.prog 32 #[.agg #[.int .i64 b0, .int .i64 b1, .int .i64 b2, .int .i64 b3, .string b4]] w fun e w' => e = .returned (.int .i64 b3) ∧ Below w.heap.size w w' := by
  have HB := Aside0.mk (Below.refl w.heap.size w)
  have hu28 := Try.underlying28
  go_enter Try.func32, Try.ntmps32
  go_wp2
  go_ret
  exact ⟨by first | rfl | (simp; done), (by repeat (first | (with_reducible first | exact HB.out | apply below_alloc | apply pw_below_drewN | apply below_drew1 | refine below_set ?_ GE.out | refine below_set ?_ GED.out) | exact HB.out))⟩
set_option maxHeartbeats 8000000 in
set_option maxRecDepth 100000 in
theorem orders_Encode.calls (k : Nat) (A0 : Option Addr) (c0 : Nat) (l0 : List (S28)) (r : ByteArray) (w : World) (hr0 : Kd.C k28 w A0 l0.length l0) (hc0 : l0.length ≤ c0) (h : orders_Encode.f k l0 = some r) :
    Calls Try.prog 11 #[.slice A0 l0.length c0] w fun e w' => e = .returned (.string r) ∧ Below w.heap.size w w' := by
  have hu28 := Try.underlying28
  have HR0 := Aside0.mk hr0
  have HC0 := Aside0.mk hc0
  clear hr0 hc0
  have HB := Aside0.mk (Below.refl w.heap.size w)
  have H : ((wire_Uint.f k (IntKind.u64.wrap ((l0.length : Int)))).bind fun t109 => (if t109.size ≤ 140737488355328 then (orders_Encode.l0 k l0 t109 0) else (none))) = some r := h
  clear h
  replace H := Option.bind_eq_some_iff.mp H
  obtain ⟨t109, A20, H⟩ := H
  have A2 := Aside0.mk A20
  clear A20
  have g0 : t109.size ≤ 140737488355328 := by
    rcases Nat.lt_or_ge 140737488355328 t109.size with g1 | g1
    · rw [if_neg (by omega)] at H
      cases H
    · exact g1
  rw [if_pos g0] at H
  have G0 := Aside0.mk g0
  have H' := Aside0.mk H
  clear H g0
  have HBD := Aside0.mk (Lib.IsBuilderF.of (Lib.fresh_isBuilder 48 5 w))
  have HD := Aside0.mk (Below.refl (w.alloc (.cells #[.pointer none, .slice none 0 0] 48)).heap.size (w.alloc (.cells #[.pointer none, .slice none 0 0] 48)))
  go_enter Try.func11, Try.ntmps11
  go_wp2_with (first | ((with_reducible refine gate_callee (f := 27) rfl ?_); refine goesL_ (some 9) rfl rfl Try.func27 (by kernel_rfl) rfl #[.int .u64 (IntKind.u64.wrap ((l0.length : Int)))] rfl (by (try simp only [List.map_toArray, List.map_cons, List.map_nil]); first | done | rfl) ?_; (refine (wire_Uint.calls k (IntKind.u64.wrap ((l0.length : Int))) t109 _ A2.out).mono ?_); rintro e w7 ⟨rfl, hb⟩; refine ⟨_, rfl, ?_⟩; have n0_ := Aside0.mk (below_step (by repeat (first | (with_reducible first | exact HB.out | apply below_alloc | apply pw_below_drewN | apply below_drew1 | refine below_set ?_ GE.out | refine below_set ?_ GED.out) | exact HB.out)) hb); have n1_ := Aside0.mk (below_step (by repeat (first | (with_reducible first | exact HD.out | apply below_alloc | apply pw_below_drewN | apply below_drew1 | refine below_set ?_ GE.out | refine below_set ?_ GED.out) | exact HD.out)) hb); clear HB HD; have HB := n0_; have HD := n1_; clear n0_ n1_ hb) | ((with_reducible refine gate_callee (f := 26) rfl ?_); refine goesL_ (some 10) rfl rfl Try.func26 (by kernel_rfl) rfl #[.pointer (some ⟨w.heap.size, 0, none⟩), .string t109] rfl (by (try simp only [List.map_toArray, List.map_cons, List.map_nil]); first | done | rfl) ?_; (refine (Bld.write w.heap.size w.heap.size [] t109 _ (isBuilder_below HBD.out (by repeat (first | (with_reducible first | exact HD.out | apply below_alloc | apply pw_below_drewN | apply below_drew1 | refine below_set ?_ GE.out | refine below_set ?_ GED.out) | exact HD.out))) (by rw [List.length_nil, Nat.zero_add]; exact G0.out) (below_size (by repeat (first | (with_reducible first | exact HB.out | apply below_alloc | apply pw_below_drewN | apply below_drew1 | refine below_set ?_ GE.out | refine below_set ?_ GED.out) | exact HB.out)))).mono ?_); rintro e w8 ⟨rfl, hbd2, hb2, hok2⟩; refine ⟨_, rfl, ?_⟩; have n0_ := Aside0.mk (Below.trans (by repeat (first | (with_reducible first | exact HB.out | apply below_alloc | apply pw_below_drewN | apply below_drew1 | refine below_set ?_ GE.out | refine below_set ?_ GED.out) | exact HB.out)) hb2); have n1_ := Aside0.mk hbd2; have n2_ := Aside0.mk (Below.refl w8.heap.size w8); clear HB HD HBD; have HB := n0_; have HBD := n1_; have HD := n2_; clear n0_ n1_ n2_ hbd2 hb2 hok2))
  rw [List.nil_append] at HBD
  have HBD' := Aside0.mk (Or.inr HBD.out : Lib.IsBuilderF 48 5 w.heap.size w.heap.size (Lib.strCells t109) _)
  clear HBD
  have HBD := HBD'
  clear HBD'
  go_loopg [13] k (fun kq v13 w' => ∃ (x3 : ByteArray) (x4 : Int), v13 = .int .i64 x4 ∧ Aside0 (orders_Encode.l0 kq l0 x3 x4 = some r) ∧ Aside0 (kq ≤ k) ∧ Aside0 (Lib.IsBuilderF 48 5 w.heap.size w.heap.size (Lib.strCells x3) w') ∧ Aside0 (Below w.heap.size w w'))
  case atStart => exact ⟨t109, 0, (by first | rfl | (simp; done) | (simp [*]; done)), H', ⟨Nat.le_refl _⟩, ⟨isBuilder_below HBD.out (by repeat (first | (with_reducible first | exact HD.out | apply below_alloc | apply pw_below_drewN | apply below_drew1 | refine below_set ?_ GE.out | refine below_set ?_ GED.out) | exact HD.out))⟩, ⟨(by repeat (first | (with_reducible first | exact HB.out | apply below_alloc | apply pw_below_drewN | apply below_drew1 | refine below_set ?_ GE.out | refine below_set ?_ GED.out) | exact HB.out))⟩⟩
  case round =>
    clear H' HBD HB HD
    obtain ⟨x3, x4, rfl, HA, HK1, HBD, HB⟩ := hrel
    have HD := Aside0.mk (Below.refl wr.heap.size wr)
    cases gk with
    | zero => exact absurd HA.out (by simp [orders_Encode.l0])
    | succ k1 =>
      have H := HA.out
      clear HA
      simp only [orders_Encode.l0] at H
      by_cases c4 : x4 < (l0.length : Int)
      · rw [if_pos c4] at H
        have c4b0 : decide (x4 < (l0.length : Int)) = true := decide_eq_true c4
        by_cases c5 : 0 ≤ x4
        · rw [if_pos c5] at H
          have c5b0 : decide (0 ≤ x4) = true := decide_eq_true c5
          obtain ⟨t112, B112, H⟩ := Option.bind_eq_some_iff.mp H
          have A112 := Aside0.mk B112
          clear B112
          have g112 : (x3).size + t112.size ≤ 140737488355328 := by
            rcases Nat.lt_or_ge 140737488355328 ((x3).size + t112.size) with g1 | g1
            · rw [if_neg (by omega)] at H
              cases H
            · exact g1
          rw [if_pos g112] at H
          have G112 := Aside0.mk g112
          clear g112
          obtain ⟨t113, B113, H⟩ := Option.bind_eq_some_iff.mp H
          have A113 := Aside0.mk B113
          clear B113
          have g113 : ((x3 ++ t112)).size + t113.size ≤ 140737488355328 := by
            rcases Nat.lt_or_ge 140737488355328 (((x3 ++ t112)).size + t113.size) with g1 | g1
            · rw [if_neg (by omega)] at H
              cases H
            · exact g1
          rw [if_pos g113] at H
          have G113 := Aside0.mk g113
          clear g113
          obtain ⟨t114, B114, H⟩ := Option.bind_eq_some_iff.mp H
          have A114 := Aside0.mk B114
          clear B114
          have g114 : (((x3 ++ t112) ++ t113)).size + t114.size ≤ 140737488355328 := by
            rcases Nat.lt_or_ge 140737488355328 ((((x3 ++ t112) ++ t113)).size + t114.size) with g1 | g1
            · rw [if_neg (by omega)] at H
              cases H
            · exact g1
          rw [if_pos g114] at H
          have G114 := Aside0.mk g114
          clear g114
          obtain ⟨t115, B115, H⟩ := Option.bind_eq_some_iff.mp H
          have A115 := Aside0.mk B115
          clear B115
          have g115 : ((((x3 ++ t112) ++ t113) ++ t114)).size + t115.size ≤ 140737488355328 := by
            rcases Nat.lt_or_ge 140737488355328 (((((x3 ++ t112) ++ t113) ++ t114)).size + t115.size) with g1 | g1
            · rw [if_neg (by omega)] at H
              cases H
            · exact g1
          rw [if_pos g115] at H
          have G115 := Aside0.mk g115
          clear g115
          obtain ⟨t116, B116, H⟩ := Option.bind_eq_some_iff.mp H
          have A116 := Aside0.mk B116
          clear B116
          have g116 : (((((x3 ++ t112) ++ t113) ++ t114) ++ t115)).size + t116.size ≤ 140737488355328 := by
            rcases Nat.lt_or_ge 140737488355328 ((((((x3 ++ t112) ++ t113) ++ t114) ++ t115)).size + t116.size) with g1 | g1
            · rw [if_neg (by omega)] at H
              cases H
            · exact g1
          rw [if_pos g116] at H
          have G116 := Aside0.mk g116
          clear g116
          have H' := Aside0.mk H
          clear H
          obtain ⟨ad, ead, hx_0, hx_1, hx_2, hx_3, hx_4⟩ := at_T28 HR0.out x4 c5 c4
          cases ead
          replace hx_0 := (HB.out.cell (World.block_lt_of_cell? w _ hx_0)).trans hx_0
          replace hx_1 := (HB.out.cell (World.block_lt_of_cell? w _ hx_1)).trans hx_1
          replace hx_2 := (HB.out.cell (World.block_lt_of_cell? w _ hx_2)).trans hx_2
          replace hx_3 := (HB.out.cell (World.block_lt_of_cell? w _ hx_3)).trans hx_3
          replace hx_4 := (HB.out.cell (World.block_lt_of_cell? w _ hx_4)).trans hx_4
          have p4 : (0 ≤ x4) = True := eq_true c5
          have q4 : (x4 < (l0.length : Int)) = True := eq_true c4
          clear c4 c5
          go_wp2_with (first | ((with_reducible refine gate_dst (N := 5) rfl ?_); refine box_event ?hg (N := 5) ?hd (cs := #[.int .i64 0, .int .i64 0, .int .i64 0, .int .i64 0, .string (⟨#[]⟩ : ByteArray)]) (t := 28) ?hr ?_; (case hd => rfl); (case hg => rfl); (case hr => first | (go_simp; done) | (go_simp; rfl)); intro gb hg w16 hbox hb; have n0_ := Aside0.mk (below_step (by repeat (first | (with_reducible first | exact HB.out | apply below_alloc | apply pw_below_drewN | apply below_drew1 | refine below_set ?_ GE.out | refine below_set ?_ GED.out) | exact HB.out)) hb); have n1_ := Aside0.mk (below_step (by repeat (first | (with_reducible first | exact HD.out | apply below_alloc | apply pw_below_drewN | apply below_drew1 | refine below_set ?_ GE.out | refine below_set ?_ GED.out) | exact HD.out)) hb); have n2_ := Aside0.mk hbox; have n3_ : Aside0 (w.heap.size ≤ gb) := ⟨by rw [hg]; exact (below_size (by repeat (first | (with_reducible first | exact HB.out | apply below_alloc | apply pw_below_drewN | apply below_drew1 | refine below_set ?_ GE.out | refine below_set ?_ GED.out) | exact HB.out)))⟩; have n4_ : Aside0 (wr.heap.size ≤ gb) := ⟨by rw [hg]; exact (below_size (by repeat (first | (with_reducible first | exact HD.out | apply below_alloc | apply pw_below_drewN | apply below_drew1 | refine below_set ?_ GE.out | refine below_set ?_ GED.out) | exact HD.out)))⟩; have n5_ : Aside0 (some gb ≠ some w.heap.size) := ⟨by intro he; injection he with he; have h1_ := isBuilder_lt HBD.out; have h2_ := n4_.out; omega⟩; clear HB HD; have HB := n0_; have HD := n1_; have BK := n2_; have GE := n3_; have GED := n4_; have NB := n5_; clear n0_ n1_ n2_ n3_ n4_ n5_ hb hbox hg; have hcz0 : w16.cell? ⟨gb, 0, none⟩ = some (.int .i64 0) := (blk_cell BK.out 0).trans rfl; have hfz0 := blk_frozen BK.out 0; have hcz1 : w16.cell? ⟨gb, 1, none⟩ = some (.int .i64 0) := (blk_cell BK.out 1).trans rfl; have hfz1 := blk_frozen BK.out 1; have hcz2 : w16.cell? ⟨gb, 2, none⟩ = some (.int .i64 0) := (blk_cell BK.out 2).trans rfl; have hfz2 := blk_frozen BK.out 2; have hcz3 : w16.cell? ⟨gb, 3, none⟩ = some (.int .i64 0) := (blk_cell BK.out 3).trans rfl; have hfz3 := blk_frozen BK.out 3; have hcz4 : w16.cell? ⟨gb, 4, none⟩ = some (.string (⟨#[]⟩ : ByteArray)) := (blk_cell BK.out 4).trans rfl; have hfz4 := blk_frozen BK.out 4) | ((with_reducible refine gate_dst (N := 18) rfl ?_); refine goesL_ (some 18) rfl rfl Try.func28 (by kernel_rfl) rfl #[.pointer (some ⟨w.heap.size, 0, none⟩), .agg #[.int .i64 ((rd_T28 l0 x4).f0), .int .i64 ((rd_T28 l0 x4).f1.f0), .int .i64 ((rd_T28 l0 x4).f1.f1), .int .i64 ((rd_T28 l0 x4).f2), .string ((rd_T28 l0 x4).f3)], .func (.func 29) #[] #[]] rfl (by (try simp only [List.map_toArray, List.map_cons, List.map_nil]); first | done | rfl) ?_; (refine (orders_write.calls k1 29 _ Try.func29 (by kernel_rfl) rfl w.heap.size w.heap.size (x3) ((rd_T28 l0 x4).f0) ((rd_T28 l0 x4).f1.f0) ((rd_T28 l0 x4).f1.f1) ((rd_T28 l0 x4).f2) ((rd_T28 l0 x4).f0) ((rd_T28 l0 x4).f3) t112 _ (fun W => field_29.calls _ _ _ _ _ W) A112.out (isBuilder_below HBD.out (by repeat (first | (with_reducible first | exact HD.out | apply below_alloc | apply pw_below_drewN | apply below_drew1 | refine below_set ?_ GE.out | refine below_set ?_ GED.out) | exact HD.out))) (below_size (by repeat (first | (with_reducible first | exact HB.out | apply below_alloc | apply pw_below_drewN | apply below_drew1 | refine below_set ?_ GE.out | refine below_set ?_ GED.out) | exact HB.out))) G112.out).mono ?_); rintro e w8 ⟨rfl, hbd2, hb2, hok2⟩; refine ⟨_, rfl, ?_⟩; have n0_ := Aside0.mk (Below.trans (by repeat (first | (with_reducible first | exact HB.out | apply below_alloc | apply pw_below_drewN | apply below_drew1 | refine below_set ?_ GE.out | refine below_set ?_ GED.out) | exact HB.out)) hb2); have n1_ := Aside0.mk hbd2; have n2_ := Aside0.mk (Below.refl w8.heap.size w8); have n3_ := Aside0.mk (hok2 gb (.cells #[.int .i64 ((rd_T28 l0 x4).f0), .int .i64 ((rd_T28 l0 x4).f1.f0), .int .i64 ((rd_T28 l0 x4).f1.f1), .int .i64 ((rd_T28 l0 x4).f2), .string ((rd_T28 l0 x4).f3)] 28 (0, 0)) (by refine blk_put (cs := #[.int .i64 ((rd_T28 l0 x4).f0), .int .i64 ((rd_T28 l0 x4).f1.f0), .int .i64 ((rd_T28 l0 x4).f1.f1), .int .i64 ((rd_T28 l0 x4).f2), .string (⟨#[]⟩ : ByteArray)]) ?_ 4 _ rfl; refine blk_put (cs := #[.int .i64 ((rd_T28 l0 x4).f0), .int .i64 ((rd_T28 l0 x4).f1.f0), .int .i64 ((rd_T28 l0 x4).f1.f1), .int .i64 0, .string (⟨#[]⟩ : ByteArray)]) ?_ 3 _ rfl; refine blk_put (cs := #[.int .i64 ((rd_T28 l0 x4).f0), .int .i64 ((rd_T28 l0 x4).f1.f0), .int .i64 0, .int .i64 0, .string (⟨#[]⟩ : ByteArray)]) ?_ 2 _ rfl; refine blk_put (cs := #[.int .i64 ((rd_T28 l0 x4).f0), .int .i64 0, .int .i64 0, .int .i64 0, .string (⟨#[]⟩ : ByteArray)]) ?_ 1 _ rfl; refine blk_put (cs := #[.int .i64 0, .int .i64 0, .int .i64 0, .int .i64 0, .string (⟨#[]⟩ : ByteArray)]) ?_ 0 _ rfl; exact BK.out) NB.out (fun c fz => cells_ne c fz)); clear HB HD HBD BK; have HB := n0_; have HBD := n1_; have HD := n2_; have BK := n3_; clear n0_ n1_ n2_ n3_ hbd2 hb2 hok2; (try clear hcz0); (try clear hcz1); (try clear hcz2); (try clear hcz3); (try clear hcz4); (try clear hfz0); (try clear hfz1); (try clear hfz2); (try clear hfz3); (try clear hfz4); have hcz0 : w8.cell? ⟨gb, 0, none⟩ = some (.int .i64 ((rd_T28 l0 x4).f0)) := (blk_cell BK.out 0).trans rfl; have hcz1 : w8.cell? ⟨gb, 1, none⟩ = some (.int .i64 ((rd_T28 l0 x4).f1.f0)) := (blk_cell BK.out 1).trans rfl; have hcz2 : w8.cell? ⟨gb, 2, none⟩ = some (.int .i64 ((rd_T28 l0 x4).f1.f1)) := (blk_cell BK.out 2).trans rfl; have hcz3 : w8.cell? ⟨gb, 3, none⟩ = some (.int .i64 ((rd_T28 l0 x4).f2)) := (blk_cell BK.out 3).trans rfl; have hcz4 : w8.cell? ⟨gb, 4, none⟩ = some (.string ((rd_T28 l0 x4).f3)) := (blk_cell BK.out 4).trans rfl) | ((with_reducible refine gate_dst (N := 20) rfl ?_); refine goesL_ (some 20) rfl rfl Try.func28 (by kernel_rfl) rfl #[.pointer (some ⟨w.heap.size, 0, none⟩), .agg #[.int .i64 ((rd_T28 l0 x4).f0), .int .i64 ((rd_T28 l0 x4).f1.f0), .int .i64 ((rd_T28 l0 x4).f1.f1), .int .i64 ((rd_T28 l0 x4).f2), .string ((rd_T28 l0 x4).f3)], .func (.func 30) #[] #[]] rfl (by (try simp only [List.map_toArray, List.map_cons, List.map_nil]); first | done | rfl) ?_; (refine (orders_write.calls k1 30 _ Try.func30 (by kernel_rfl) rfl w.heap.size w.heap.size ((x3 ++ t112)) ((rd_T28 l0 x4).f0) ((rd_T28 l0 x4).f1.f0) ((rd_T28 l0 x4).f1.f1) ((rd_T28 l0 x4).f2) ((rd_T28 l0 x4).f1.f0) ((rd_T28 l0 x4).f3) t113 _ (fun W => field_30.calls _ _ _ _ _ W) A113.out (isBuilder_below HBD.out (by repeat (first | (with_reducible first | exact HD.out | apply below_alloc | apply pw_below_drewN | apply below_drew1 | refine below_set ?_ GE.out | refine below_set ?_ GED.out) | exact HD.out))) (below_size (by repeat (first | (with_reducible first | exact HB.out | apply below_alloc | apply pw_below_drewN | apply below_drew1 | refine below_set ?_ GE.out | refine below_set ?_ GED.out) | exact HB.out))) G113.out).mono ?_); rintro e w8 ⟨rfl, hbd2, hb2, hok2⟩; refine ⟨_, rfl, ?_⟩; have n0_ := Aside0.mk (Below.trans (by repeat (first | (with_reducible first | exact HB.out | apply below_alloc | apply pw_below_drewN | apply below_drew1 | refine below_set ?_ GE.out | refine below_set ?_ GED.out) | exact HB.out)) hb2); have n1_ := Aside0.mk hbd2; have n2_ := Aside0.mk (Below.refl w8.heap.size w8); have n3_ := Aside0.mk (hok2 gb (.cells #[.int .i64 ((rd_T28 l0 x4).f0), .int .i64 ((rd_T28 l0 x4).f1.f0), .int .i64 ((rd_T28 l0 x4).f1.f1), .int .i64 ((rd_T28 l0 x4).f2), .string ((rd_T28 l0 x4).f3)] 28 (0, 0)) BK.out NB.out (fun c fz => cells_ne c fz)); clear HB HD HBD BK; have HB := n0_; have HBD := n1_; have HD := n2_; have BK := n3_; clear n0_ n1_ n2_ n3_ hbd2 hb2 hok2; (try clear hcz0); (try clear hcz1); (try clear hcz2); (try clear hcz3); (try clear hcz4); (try clear hfz0); (try clear hfz1); (try clear hfz2); (try clear hfz3); (try clear hfz4); have hcz0 : w8.cell? ⟨gb, 0, none⟩ = some (.int .i64 ((rd_T28 l0 x4).f0)) := (blk_cell BK.out 0).trans rfl; have hcz1 : w8.cell? ⟨gb, 1, none⟩ = some (.int .i64 ((rd_T28 l0 x4).f1.f0)) := (blk_cell BK.out 1).trans rfl; have hcz2 : w8.cell? ⟨gb, 2, none⟩ = some (.int .i64 ((rd_T28 l0 x4).f1.f1)) := (blk_cell BK.out 2).trans rfl; have hcz3 : w8.cell? ⟨gb, 3, none⟩ = some (.int .i64 ((rd_T28 l0 x4).f2)) := (blk_cell BK.out 3).trans rfl; have hcz4 : w8.cell? ⟨gb, 4, none⟩ = some (.string ((rd_T28 l0 x4).f3)) := (blk_cell BK.out 4).trans rfl) | ((with_reducible refine gate_dst (N := 22) rfl ?_); refine goesL_ (some 22) rfl rfl Try.func28 (by kernel_rfl) rfl #[.pointer (some ⟨w.heap.size, 0, none⟩), .agg #[.int .i64 ((rd_T28 l0 x4).f0), .int .i64 ((rd_T28 l0 x4).f1.f0), .int .i64 ((rd_T28 l0 x4).f1.f1), .int .i64 ((rd_T28 l0 x4).f2), .string ((rd_T28 l0 x4).f3)], .func (.func 31) #[] #[]] rfl (by (try simp only [List.map_toArray, List.map_cons, List.map_nil]); first | done | rfl) ?_; (refine (orders_write.calls k1 31 _ Try.func31 (by kernel_rfl) rfl w.heap.size w.heap.size (((x3 ++ t112) ++ t113)) ((rd_T28 l0 x4).f0) ((rd_T28 l0 x4).f1.f0) ((rd_T28 l0 x4).f1.f1) ((rd_T28 l0 x4).f2) ((rd_T28 l0 x4).f1.f1) ((rd_T28 l0 x4).f3) t114 _ (fun W => field_31.calls _ _ _ _ _ W) A114.out (isBuilder_below HBD.out (by repeat (first | (with_reducible first | exact HD.out | apply below_alloc | apply pw_below_drewN | apply below_drew1 | refine below_set ?_ GE.out | refine below_set ?_ GED.out) | exact HD.out))) (below_size (by repeat (first | (with_reducible first | exact HB.out | apply below_alloc | apply pw_below_drewN | apply below_drew1 | refine below_set ?_ GE.out | refine below_set ?_ GED.out) | exact HB.out))) G114.out).mono ?_); rintro e w8 ⟨rfl, hbd2, hb2, hok2⟩; refine ⟨_, rfl, ?_⟩; have n0_ := Aside0.mk (Below.trans (by repeat (first | (with_reducible first | exact HB.out | apply below_alloc | apply pw_below_drewN | apply below_drew1 | refine below_set ?_ GE.out | refine below_set ?_ GED.out) | exact HB.out)) hb2); have n1_ := Aside0.mk hbd2; have n2_ := Aside0.mk (Below.refl w8.heap.size w8); have n3_ := Aside0.mk (hok2 gb (.cells #[.int .i64 ((rd_T28 l0 x4).f0), .int .i64 ((rd_T28 l0 x4).f1.f0), .int .i64 ((rd_T28 l0 x4).f1.f1), .int .i64 ((rd_T28 l0 x4).f2), .string ((rd_T28 l0 x4).f3)] 28 (0, 0)) BK.out NB.out (fun c fz => cells_ne c fz)); clear HB HD HBD BK; have HB := n0_; have HBD := n1_; have HD := n2_; have BK := n3_; clear n0_ n1_ n2_ n3_ hbd2 hb2 hok2; (try clear hcz0); (try clear hcz1); (try clear hcz2); (try clear hcz3); (try clear hcz4); (try clear hfz0); (try clear hfz1); (try clear hfz2); (try clear hfz3); (try clear hfz4); have hcz0 : w8.cell? ⟨gb, 0, none⟩ = some (.int .i64 ((rd_T28 l0 x4).f0)) := (blk_cell BK.out 0).trans rfl; have hcz1 : w8.cell? ⟨gb, 1, none⟩ = some (.int .i64 ((rd_T28 l0 x4).f1.f0)) := (blk_cell BK.out 1).trans rfl; have hcz2 : w8.cell? ⟨gb, 2, none⟩ = some (.int .i64 ((rd_T28 l0 x4).f1.f1)) := (blk_cell BK.out 2).trans rfl; have hcz3 : w8.cell? ⟨gb, 3, none⟩ = some (.int .i64 ((rd_T28 l0 x4).f2)) := (blk_cell BK.out 3).trans rfl; have hcz4 : w8.cell? ⟨gb, 4, none⟩ = some (.string ((rd_T28 l0 x4).f3)) := (blk_cell BK.out 4).trans rfl) | ((with_reducible refine gate_dst (N := 24) rfl ?_); refine goesL_ (some 24) rfl rfl Try.func28 (by kernel_rfl) rfl #[.pointer (some ⟨w.heap.size, 0, none⟩), .agg #[.int .i64 ((rd_T28 l0 x4).f0), .int .i64 ((rd_T28 l0 x4).f1.f0), .int .i64 ((rd_T28 l0 x4).f1.f1), .int .i64 ((rd_T28 l0 x4).f2), .string ((rd_T28 l0 x4).f3)], .func (.func 32) #[] #[]] rfl (by (try simp only [List.map_toArray, List.map_cons, List.map_nil]); first | done | rfl) ?_; (refine (orders_write.calls k1 32 _ Try.func32 (by kernel_rfl) rfl w.heap.size w.heap.size ((((x3 ++ t112) ++ t113) ++ t114)) ((rd_T28 l0 x4).f0) ((rd_T28 l0 x4).f1.f0) ((rd_T28 l0 x4).f1.f1) ((rd_T28 l0 x4).f2) ((rd_T28 l0 x4).f2) ((rd_T28 l0 x4).f3) t115 _ (fun W => field_32.calls _ _ _ _ _ W) A115.out (isBuilder_below HBD.out (by repeat (first | (with_reducible first | exact HD.out | apply below_alloc | apply pw_below_drewN | apply below_drew1 | refine below_set ?_ GE.out | refine below_set ?_ GED.out) | exact HD.out))) (below_size (by repeat (first | (with_reducible first | exact HB.out | apply below_alloc | apply pw_below_drewN | apply below_drew1 | refine below_set ?_ GE.out | refine below_set ?_ GED.out) | exact HB.out))) G115.out).mono ?_); rintro e w8 ⟨rfl, hbd2, hb2, hok2⟩; refine ⟨_, rfl, ?_⟩; have n0_ := Aside0.mk (Below.trans (by repeat (first | (with_reducible first | exact HB.out | apply below_alloc | apply pw_below_drewN | apply below_drew1 | refine below_set ?_ GE.out | refine below_set ?_ GED.out) | exact HB.out)) hb2); have n1_ := Aside0.mk hbd2; have n2_ := Aside0.mk (Below.refl w8.heap.size w8); have n3_ := Aside0.mk (hok2 gb (.cells #[.int .i64 ((rd_T28 l0 x4).f0), .int .i64 ((rd_T28 l0 x4).f1.f0), .int .i64 ((rd_T28 l0 x4).f1.f1), .int .i64 ((rd_T28 l0 x4).f2), .string ((rd_T28 l0 x4).f3)] 28 (0, 0)) BK.out NB.out (fun c fz => cells_ne c fz)); clear HB HD HBD BK; have HB := n0_; have HBD := n1_; have HD := n2_; have BK := n3_; clear n0_ n1_ n2_ n3_ hbd2 hb2 hok2; (try clear hcz0); (try clear hcz1); (try clear hcz2); (try clear hcz3); (try clear hcz4); (try clear hfz0); (try clear hfz1); (try clear hfz2); (try clear hfz3); (try clear hfz4); have hcz0 : w8.cell? ⟨gb, 0, none⟩ = some (.int .i64 ((rd_T28 l0 x4).f0)) := (blk_cell BK.out 0).trans rfl; have hcz1 : w8.cell? ⟨gb, 1, none⟩ = some (.int .i64 ((rd_T28 l0 x4).f1.f0)) := (blk_cell BK.out 1).trans rfl; have hcz2 : w8.cell? ⟨gb, 2, none⟩ = some (.int .i64 ((rd_T28 l0 x4).f1.f1)) := (blk_cell BK.out 2).trans rfl; have hcz3 : w8.cell? ⟨gb, 3, none⟩ = some (.int .i64 ((rd_T28 l0 x4).f2)) := (blk_cell BK.out 3).trans rfl; have hcz4 : w8.cell? ⟨gb, 4, none⟩ = some (.string ((rd_T28 l0 x4).f3)) := (blk_cell BK.out 4).trans rfl) | ((with_reducible refine gate_callee (f := 33) rfl ?_); refine goesL_ (some 27) rfl rfl Try.func33 (by kernel_rfl) rfl #[.string ((rd_T28 l0 x4).f3)] rfl (by (try simp only [List.map_toArray, List.map_cons, List.map_nil]); first | done | rfl) ?_; (refine (wire_Text.calls k1 ((rd_T28 l0 x4).f3) t116 _ A116.out).mono ?_); rintro e w7 ⟨rfl, hb⟩; refine ⟨_, rfl, ?_⟩; have n0_ := Aside0.mk (below_step (by repeat (first | (with_reducible first | exact HB.out | apply below_alloc | apply pw_below_drewN | apply below_drew1 | refine below_set ?_ GE.out | refine below_set ?_ GED.out) | exact HB.out)) hb); have n1_ := Aside0.mk (below_step (by repeat (first | (with_reducible first | exact HD.out | apply below_alloc | apply pw_below_drewN | apply below_drew1 | refine below_set ?_ GE.out | refine below_set ?_ GED.out) | exact HD.out)) hb); clear HB HD; have HB := n0_; have HD := n1_; clear n0_ n1_ hb) | ((with_reducible refine gate_callee (f := 26) rfl ?_); refine goesL_ (some 28) rfl rfl Try.func26 (by kernel_rfl) rfl #[.pointer (some ⟨w.heap.size, 0, none⟩), .string t116] rfl (by (try simp only [List.map_toArray, List.map_cons, List.map_nil]); first | done | rfl) ?_; (refine (Bld.write w.heap.size w.heap.size (Lib.strCells (((((x3 ++ t112) ++ t113) ++ t114) ++ t115))) t116 _ (isBuilder_below HBD.out (by repeat (first | (with_reducible first | exact HD.out | apply below_alloc | apply pw_below_drewN | apply below_drew1 | refine below_set ?_ GE.out | refine below_set ?_ GED.out) | exact HD.out))) (by rw [strCells_len]; exact G116.out) (below_size (by repeat (first | (with_reducible first | exact HB.out | apply below_alloc | apply pw_below_drewN | apply below_drew1 | refine below_set ?_ GE.out | refine below_set ?_ GED.out) | exact HB.out)))).mono ?_); rintro e w8 ⟨rfl, hbd2, hb2, hok2⟩; refine ⟨_, rfl, ?_⟩; rw [strCells_append] at hbd2; have n0_ := Aside0.mk (Below.trans (by repeat (first | (with_reducible first | exact HB.out | apply below_alloc | apply pw_below_drewN | apply below_drew1 | refine below_set ?_ GE.out | refine below_set ?_ GED.out) | exact HB.out)) hb2); have n1_ := Aside0.mk (Or.inr hbd2 : Lib.IsBuilderF 48 5 w.heap.size w.heap.size _ w8); have n2_ := Aside0.mk (Below.refl w8.heap.size w8); clear HB HD HBD; have HB := n0_; have HBD := n1_; have HD := n2_; clear n0_ n1_ n2_ hbd2 hb2 hok2))
          go_roundg k1
          case measure => have := HK1.out; omega
          case rel => exact ⟨_, (wrap64 (x4 + 1)), (by first | rfl | (simp; done) | (simp [*]; done)), H', ⟨by have := HK1.out; omega⟩, ⟨isBuilder_below HBD.out (by repeat (first | (with_reducible first | exact HD.out | apply below_alloc | apply pw_below_drewN | apply below_drew1 | refine below_set ?_ GE.out | refine below_set ?_ GED.out) | exact HD.out))⟩, ⟨(by repeat (first | (with_reducible first | exact HB.out | apply below_alloc | apply pw_below_drewN | apply below_drew1 | refine below_set ?_ GE.out | refine below_set ?_ GED.out) | exact HB.out))⟩⟩
        · rw [if_neg c5] at H
          cases H
      · rw [if_neg c4] at H
        have c4b0 : decide (x4 < (l0.length : Int)) = false := decide_eq_false c4
        clear c4
        obtain rfl := Option.some.inj H
        go_wp2_with (first | ((with_reducible refine gate_callee (f := 34) rfl ?_); refine goesL_ (some 30) rfl rfl Try.func34 (by kernel_rfl) rfl #[.pointer (some ⟨w.heap.size, 0, none⟩)] rfl (by (try simp only [List.map_toArray, List.map_cons, List.map_nil]); first | done | rfl) ?_; (refine (Bld.string w.heap.size w.heap.size x3.data.toList _ (isBuilder_below HBD.out (by repeat (first | (with_reducible first | exact HD.out | apply below_alloc | apply pw_below_drewN | apply below_drew1 | refine below_set ?_ GE.out | refine below_set ?_ GED.out) | exact HD.out))) (below_size (by repeat (first | (with_reducible first | exact HB.out | apply below_alloc | apply pw_below_drewN | apply below_drew1 | refine below_set ?_ GE.out | refine below_set ?_ GED.out) | exact HB.out)))).mono ?_); rintro e w8 ⟨rfl, hbd2, hb2, hok2⟩; clear hbd2 hok2; refine ⟨_, rfl, ?_⟩; have n0_ := Aside0.mk (Below.trans (by repeat (first | (with_reducible first | exact HB.out | apply below_alloc | apply pw_below_drewN | apply below_drew1 | refine below_set ?_ GE.out | refine below_set ?_ GED.out) | exact HB.out)) hb2); clear HB; have HB := n0_; clear n0_ hb2))
        go_ret
        exact ⟨by first | rfl | (simp; done), (by repeat (first | (with_reducible first | exact HB.out | apply below_alloc | apply pw_below_drewN | apply below_drew1 | refine below_set ?_ GE.out | refine below_set ?_ GED.out) | exact HB.out))⟩

end Go.Proofs.Ytbclljolofbfdaa.F
