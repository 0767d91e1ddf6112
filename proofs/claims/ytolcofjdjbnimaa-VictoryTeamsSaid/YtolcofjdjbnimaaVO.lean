/- Chapter 33: rows of a call's own: an element is put behind, all of a row is put behind, one field of one element is written. -/
import Derived.Test.YtolcofjdjbnimaaVM
import Derived.Lib.SliceRun
namespace Go.Proofs.Ytolcofjdjbnimaa.V
open Go.RowKit Go.Proofs.YtolcofjdjbnimaaW.PrintWords Go.Proofs.YtolcofjdjbnimaaW.PrintLast Go.Proofs.YtolcofjdjbnimaaW.PrintMore
set_option linter.unusedVariables false
set_option linter.unusedSimpArgs false
/-- A row of the call's own (all its blocks are from base on). -/
abbrev Ow {α : Type} (k : Kd α) (e : Nat) (W : World) (base : Nat) (R : RS) (xs : List α) : Prop := k.R e W base (fun _ => True) (.slice R.a R.n R.c) xs
theorem Ow.rw_ {α : Type} {k : Kd α} {e : Nat} {W : World} {base : Nat} {R : RS} {xs : List α} (h : Ow k e W base R xs) : Rw k W R xs := by
  obtain ⟨h1, h2, h3⟩ := Kd.R_reads' h
  exact ⟨by rw [h1]; exact h3, h1, h2⟩
theorem Ow.ne {α : Type} {k : Kd α} {e : Nat} {W : World} {base g : Nat} {R : RS} {xs : List α} (h : Ow k e W base R xs) (hg : W.heap.size ≤ g) : some g ≠ (Value.slice R.a R.n R.c).ownBlock := by
  intro he
  obtain ⟨inner, ho⟩ := Kd.R_own h
  have := own_lt ho g he.symm
  omega
theorem Ow.put {α : Type} {k : Kd α} {e : Nat} {W W1 : World} {base g t : Nat} {R : RS} {xs : List α} {cells : Array Value} (h : Ow k e W base R xs) (hb : W.heap[g]? = some (.cells cells t (0, 0))) (ht : ∀ q, q ∈ e :: k.E → q ≠ t) (hp : Put W W1 g) : Ow k e W1 base R xs :=
  Kd.R_mono (Kd.R_step (Kd.R_types h hb ht) (fun k ho _ => hp.same k ho.2)) (fun _ _ => trivial)
theorem Ow.grown {α β : Type} {k : Kd α} {k' : Kd β} {e e' : Nat} {W W1 : World} {base base' : Nat} {R R' : RS} {xs : List α} {ys : List β} (h : Ow k e W base R xs) (h' : Ow k' e' W base' R' ys) (hg : W.grownBy W1 (Value.slice R'.a R'.n R'.c).ownBlock) (hE : ∀ q, q ∈ e :: k.E → q ≠ e') : Ow k e W1 base R xs := by
  obtain ⟨inner, ho⟩ := Kd.R_own h'
  refine Kd.R_mono (Kd.R_step (Kd.R_bound h) (fun k hk hlt => hg.block k hlt ?_)) (fun _ _ => trivial)
  intro hh
  obtain ⟨_, _, _, q, hq, cells, hc⟩ := hk
  obtain ⟨cells', hc'⟩ := own_typed ho k hh.symm
  rw [hc] at hc'
  injection hc' with hc'
  injection hc' with _ hc'
  exact hE q hq hc'
theorem Ow.zero {α : Type} {k : Kd α} {e : Nat} {W : World} {base : Nat} {R : RS} {xs : List α} (h : Ow k e W base R xs) {ad : Addr} (hR : R.a = some ad) : ad.off = 0 ∧ ad.spot = none ∧ base ≤ ad.block := by
  obtain ⟨inner, ho⟩ := Kd.R_own h
  rcases ho.2 with ⟨hv, _⟩ | ⟨g, cap, cur, hv, hg, _⟩
  · injection hv with hv
    rw [hR] at hv
    cases hv
  · injection hv with hv
    rw [hR] at hv
    injection hv with hv
    subst hv
    exact ⟨rfl, rfl, hg⟩
theorem put5 {W : World} {base go n cap : Nat} {xs : List S52} (h : Ow k52 52 W base ⟨some ⟨go, 0, none⟩, n, cap⟩ xs) (i : Int) (h0 : 0 ≤ i) (h1 : i < n) :
    W.cell? ⟨go, i.toNat * 6 + 5, none⟩ = some (.bool (rd_T52 xs i).f5) ∧ W.frozen? ⟨go, i.toNat * 6 + 5, none⟩ = false ∧
    Ow k52 52 (W.setCell ⟨go, i.toNat * 6 + 5, none⟩ (.bool true)) base ⟨some ⟨go, 0, none⟩, n, cap⟩ (xs.set i.toNat ⟨(rd_T52 xs i).f0, (rd_T52 xs i).f1, (rd_T52 xs i).f2, (rd_T52 xs i).f3, (rd_T52 xs i).f4, true⟩) ∧ W.grownBy (W.setCell ⟨go, i.toNat * 6 + 5, none⟩ (.bool true)) (some go) := by
  obtain ⟨c, hcl, hM, hcc, hfr⟩ := Kd.R_elem h z52 i h0 h1
  obtain rfl := k52_openM hM
  have hP := Kd.R_seg h i h0 h1 (seg := [.bool true]) (j := 5) hcl hcc (show 6 ≤ 6 from by decide) (x' := ⟨(rd_T52 xs i).f0, (rd_T52 xs i).f1, (rd_T52 xs i).f2, (rd_T52 xs i).f3, (rd_T52 xs i).f4, true⟩) (k52_mkM _ _ _ _) (fun _ hk => hk)
  exact ⟨hcc 5 _ rfl, hfr 5, hP.1, hP.2⟩
section
variable {ops : Array Oper} {rest : List Oper} {o : Oper} {a : Act} {Q : Exit → Act → World → Prop} {Kc : Act → World → Prop}
theorem put5_event {W : World} {base go n cap : Nat} {xs : List S52} (hgd : o.guard = none) {p : Tmp} {v : Operand} (_ho : o.op = .store 4 (.tmp p) v) (hN : o.dst = none) (h : Ow k52 52 W base ⟨some ⟨go, 0, none⟩, n, cap⟩ xs) (i : Int) (h0 : 0 ≤ i) (h1 : i < n)
    (hrun : W.cell? ⟨go, i.toNat * 6 + 5, none⟩ = some (.bool (rd_T52 xs i).f5) → W.frozen? ⟨go, i.toNat * 6 + 5, none⟩ = false → (execOp a.eval o).run Try.prog W = .ok .skip (W.setCell ⟨go, i.toNat * 6 + 5, none⟩ (.bool true)))
    (hk : ∀ W1, Ow k52 52 W1 base ⟨some ⟨go, 0, none⟩, n, cap⟩ (xs.set i.toNat ⟨(rd_T52 xs i).f0, (rd_T52 xs i).f1, (rd_T52 xs i).f2, (rd_T52 xs i).f3, (rd_T52 xs i).f4, true⟩) → W.grownBy W1 (some go) → (∀ w : World, Below w.heap.size w W → w.heap.size ≤ go → Below w.heap.size w W1) → wpList Try.prog ops Q rest a W1) : wpList Try.prog ops Q (o :: rest) a W := by
  obtain ⟨z1, z2, z3, z4⟩ := put5 h i h0 h1
  refine wpList_plain hgd fun K hK => ?_
  unfold Oper.wp
  rw [hrun z1 z2]
  show K (a.put o.dst undef) _
  rw [hN]
  exact hK _ _ (hk _ z3 z4 (fun w hb hg => below_set hb hg))
/-- One element is put behind a row. -/
theorem app52_event {w W : World} {R : RS} {xs : List S52} (hgd : o.guard = none) (s x : Operand) (ho : o.op = .call { callee := .builtin .append, args := #[s, x], argTypes := #[31, 31] }) (p : S52) (hs : a.eval s = .slice R.a R.n R.c) (hx : a.eval x = .slice (some ⟨W.heap.size, 0, none⟩) 1 1)
    (HO : Ow k52 52 W w.heap.size R xs) (HB : Below w.heap.size w W) (hl : xs.length ≤ 1000)
    (hk : ∀ R' w1, Ow k52 52 w1 w.heap.size R' (xs ++ [p]) → Below w.heap.size w w1 → W.grownBy w1 (Value.slice R.a R.n R.c).ownBlock → wpList Try.prog ops Q rest (a.put o.dst (.slice R'.a R'.n R'.c)) w1) : wpList Try.prog ops Q (o :: rest) a (W.alloc (.cells (pl p) 52 (0, 0))) := by
  refine Kd.R_append k52 (w0 := w) w.heap.size hgd s x 31 52 (.agg #[(.int .i64 0), (.int .i64 0), (.int .i64 0), (.int .i64 0), (.slice none 0 0), (.bool false)]) 64 ho Try.underlying31 info52 rfl (by decide) (by omega) _ xs p (pl p).toList (fun _ => True) (fun _ => False) hs hx (k52_mkM _ _ _ p) (fun _ h => h.elim) (fun _ _ => trivial) HO HB HB.size (by omega) (fun v1 w1 h1 h2 h3 _ => ?_)
  obtain ⟨A, c, rfl⟩ := Kd.R_slice h1
  exact hk ⟨A, _, c⟩ w1 h1 h2 h3
theorem app62_event {w W : World} {R : RS} {xs : List S62} (hgd : o.guard = none) (s x : Operand) (ho : o.op = .call { callee := .builtin .append, args := #[s, x], argTypes := #[42, 42] }) (p : S62) (hs : a.eval s = .slice R.a R.n R.c) (hx : a.eval x = .slice (some ⟨W.heap.size, 0, none⟩) 1 1)
    (HO : Ow k62 62 W w.heap.size R xs) (HB : Below w.heap.size w W) (hl : xs.length ≤ 1000)
    (hk : ∀ R' w1, Ow k62 62 w1 w.heap.size R' (xs ++ [p]) → Below w.heap.size w w1 → W.grownBy w1 (Value.slice R.a R.n R.c).ownBlock → wpList Try.prog ops Q rest (a.put o.dst (.slice R'.a R'.n R'.c)) w1) : wpList Try.prog ops Q (o :: rest) a (W.alloc (.cells #[.int .i64 p.f0, .int .i64 p.f1, .int .i64 p.f2, .string p.f3] 62 (0, 0))) := by
  refine Kd.R_append k62 (w0 := w) w.heap.size hgd s x 42 62 (.agg #[(.int .i64 0), (.int .i64 0), (.int .i64 0), (.string ⟨#[]⟩)]) 40 ho Try.underlying42 info62 rfl (by decide) (by omega) _ xs p [.int .i64 p.f0, .int .i64 p.f1, .int .i64 p.f2, .string p.f3] (fun _ => True) (fun _ => False) hs hx (k62_mkM _ _ _ p) (fun _ h => h.elim) (fun _ _ => trivial) HO HB HB.size (by omega) (fun v1 w1 h1 h2 h3 _ => ?_)
  obtain ⟨A, c, rfl⟩ := Kd.R_slice h1
  exact hk ⟨A, _, c⟩ w1 h1 h2 h3
theorem app69_event {w W : World} {R : RS} {xs : List S69} (hgd : o.guard = none) (s x : Operand) (ho : o.op = .call { callee := .builtin .append, args := #[s, x], argTypes := #[32, 32] }) (p : S69) (hs : a.eval s = .slice R.a R.n R.c) (hx : a.eval x = .slice (some ⟨W.heap.size, 0, none⟩) 1 1)
    (HO : Ow k69 69 W w.heap.size R xs) (HB : Below w.heap.size w W) (hl : xs.length ≤ 1000)
    (hk : ∀ R' w1, Ow k69 69 w1 w.heap.size R' (xs ++ [p]) → Below w.heap.size w w1 → W.grownBy w1 (Value.slice R.a R.n R.c).ownBlock → wpList Try.prog ops Q rest (a.put o.dst (.slice R'.a R'.n R'.c)) w1) : wpList Try.prog ops Q (o :: rest) a (W.alloc (.cells (en p) 69 (0, 0))) := by
  refine Kd.R_append k69 (w0 := w) w.heap.size hgd s x 32 69 (.agg #[(.int .i64 0), (.int .i64 0), (.string ⟨#[]⟩), (.int .i64 0), (.int .i64 0), (.int .i64 0), (.int .i64 0), (.int .i64 0), (.int .i64 0), (.int .i64 0), (.slice none 0 0), (.slice none 0 0)]) 136 ho Try.underlying32 info69 rfl (by decide) (by omega) _ xs p (en p).toList (fun _ => True) (fun _ => False) hs hx (k69_mkM _ _ _ p) (fun _ h => h.elim) (fun _ _ => trivial) HO HB HB.size (by omega) (fun v1 w1 h1 h2 h3 _ => ?_)
  obtain ⟨A, c, rfl⟩ := Kd.R_slice h1
  exact hk ⟨A, _, c⟩ w1 h1 h2 h3
/-- All of a row is put behind a row. -/
theorem apps52_event {w W : World} {R S : RS} {xs ys : List S52} (hgd : o.guard = none) (s x : Operand) (ho : o.op = .call { callee := .builtin .append, args := #[s, x], argTypes := #[31, 31] }) (hs : a.eval s = .slice R.a R.n R.c) (hx : a.eval x = .slice S.a S.n S.c)
    (HO : Ow k52 52 W w.heap.size R xs) (HS : Rw k52 W S ys) (HB : Below w.heap.size w W) (hl : xs.length ≤ 1000) (hl2 : S.n ≤ 1000)
    (hk : ∀ R' w1, Ow k52 52 w1 w.heap.size R' (xs ++ ys) → Below w.heap.size w w1 → W.grownBy w1 (Value.slice R.a R.n R.c).ownBlock → wpList Try.prog ops Q rest (a.put o.dst (.slice R'.a R'.n R'.c)) w1) : wpList Try.prog ops Q (o :: rest) a W := by
  refine Kd.R_append_rows k52 (w0 := w) w.heap.size hgd s x 31 52 (.agg #[(.int .i64 0), (.int .i64 0), (.int .i64 0), (.int .i64 0), (.slice none 0 0), (.bool false)]) 64 ho Try.underlying31 info52 rfl (by decide) (by omega) _ xs ys _ _ _ (fun _ => True) (fun _ => False) hs hx HO HS.c (fun x cs h => ?_) (fun _ h => h.elim) (fun _ _ => trivial) HB HB.size (by omega) (fun v1 w1 h1 h2 h3 _ => ?_)
  · obtain rfl := k52_open h
    exact k52_mkM _ _ _ x
  · obtain ⟨A, c, rfl⟩ := Kd.R_slice h1
    exact hk ⟨A, _, c⟩ w1 h1 h2 h3
end
end Go.Proofs.Ytolcofjdjbnimaa.V
