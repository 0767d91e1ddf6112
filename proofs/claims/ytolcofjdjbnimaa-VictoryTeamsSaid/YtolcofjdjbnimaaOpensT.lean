/- A game that the laws are called with: what reads as one has a game's cells, with rows of players and of entities that can be read. -/
import Derived.Test.YtolcofjdjbnimaaOpens
import Derived.Test.YtolcofjdjbnimaaV9
import Derived.KernelRfl
import Derived.WideShapes
namespace Go.Proofs.Ytolcofjdjbnimaa.Opens
open Go.RowKit Go.Deep Go.WideShapes Go.Proofs.Ytolcofjdjbnimaa.V Go.Proofs.YtolcofjdjbnimaaW.PrintWords Go.Proofs.YtolcofjdjbnimaaW.PrintLast Go.Proofs.YtolcofjdjbnimaaW.PrintMore
set_option linter.unusedVariables false
section
variable {H : Type} {enc : TypeId × Value → H} {P : Program} {w : World} {sp : Nat → Bool}
/-- A row that is not looked into. -/
theorem opens_any {t e : TypeId} (ht : P.underlying t = some (.slice e)) : Opens enc P w sp t kRS (fun _ => True) := by
  intro fuel cs x hx
  rcases open_slice ht hx with ⟨rfl, _⟩ | ⟨a, len, cap, m, n, D, Pl, rfl, _⟩
  · exact ⟨RS0, rfl, trivial⟩
  · exact ⟨⟨some a, len, cap⟩, rfl, trivial⟩
/-- A row that can be read. -/
theorem opens_row {α : Type} {t e : TypeId} {d : Kd α} {G : α → Prop} (ht : P.underlying t = some (.slice e)) (hc : P.cellsOf e = d.sz) (h : Opens enc P w sp e d G) :
    Opens enc P w sp t kRS (fun r => ∃ xs, Rw d w r xs ∧ (∀ x ∈ xs, G x) ∧ xs.length ≤ maxLen) := by
  intro fuel cs x hx
  obtain ⟨v, ⟨A, c, hcs, hl, hC⟩, hG⟩ := opens_slice ht hc h fuel cs x hx
  exact ⟨⟨A, v.length, c⟩, hcs, v, ⟨hC, rfl, hl⟩, hG.1, hG.2⟩
theorem opens_conv {α : Type} {t : TypeId} {d d' : Kd α} {G : α → Prop} (h : Opens enc P w sp t d G) (hk : ∀ v cs, d.K w v cs → d'.K w v cs) : Opens enc P w sp t d' G := by
  intro fuel cs x hx
  obtain ⟨v, h1, h2⟩ := h fuel cs x hx
  exact ⟨v, hk v cs h1, h2⟩
end
section
variable {H : Type} {enc : TypeId × Value → H} {w : World} {sp : Nat → Bool}
theorem o65 : Opens enc Try.prog w sp 65 k65 (fun _ => True) :=
  opens_mono (opens_struct Try.underlying65 (by kernel_rfl) (tail_cons rfl (by kernel_rfl) (opens_int Try.underlying3) (tail_one rfl (by kernel_rfl) rfl (opens_int Try.underlying3))) (fun p => (⟨p.1, p.2⟩ : S65)) (fun _ => rfl)) (fun _ _ => trivial)
def k80s : Kd S80 := Kd.iso (Kd.pair (Kd.int .i64) (Kd.pair k65 (Kd.pair (Kd.int .i64) Kd.string))) (fun x : S80 => (x.f0, ⟨x.f1, x.f2⟩, x.f3, x.f4))
theorem k80s_conv (x : S80) (cs : List Value) (h : k80s.K w x cs) : k80.K w x cs := by
  obtain ⟨_, _, rfl, rfl, ⟨_, _, rfl, s1, ⟨_, _, rfl, rfl, rfl⟩⟩⟩ := h
  obtain rfl := k65_open s1
  exact ⟨[.int .i64 x.f0], _, rfl, rfl, ⟨[.int .i64 x.f1], _, rfl, rfl, ⟨[.int .i64 x.f2], _, rfl, rfl, ⟨[.int .i64 x.f3], _, rfl, rfl, rfl⟩⟩⟩⟩
theorem o80 : Opens enc Try.prog w sp 80 k80 (fun _ => True) :=
  opens_conv (opens_mono (opens_struct (d := Kd.pair (Kd.int .i64) (Kd.pair k65 (Kd.pair (Kd.int .i64) Kd.string))) Try.underlying80 (by kernel_rfl) (tail_cons rfl (by kernel_rfl) (opens_int Try.underlying3) (tail_cons rfl (by kernel_rfl) o65 (tail_cons rfl (by kernel_rfl) (opens_int Try.underlying3) (tail_one rfl (by kernel_rfl) rfl (opens_string Try.underlying9))))) (fun p => (⟨p.1, p.2.1.f0, p.2.1.f1, p.2.2.1, p.2.2.2⟩ : S80)) (fun _ => rfl)) (fun _ _ => trivial)) k80s_conv
theorem o76 : Opens enc Try.prog w sp 76 k76 (fun _ => True) :=
  opens_mono (opens_struct Try.underlying76 (by kernel_rfl) (tail_cons rfl (by kernel_rfl) (opens_int Try.underlying3) (tail_cons rfl (by kernel_rfl) (opens_int Try.underlying3) (tail_one rfl (by kernel_rfl) rfl (opens_string Try.underlying9)))) (fun p => (⟨p.1, p.2.1, p.2.2⟩ : S76)) (fun _ => rfl)) (fun _ _ => trivial)
theorem o52 : Opens enc Try.prog w sp 52 k52 (fun _ => True) :=
  opens_mono (opens_struct Try.underlying52 (by kernel_rfl) (tail_cons rfl (by kernel_rfl) (opens_int Try.underlying3) (tail_cons rfl (by kernel_rfl) (opens_int Try.underlying3) (tail_cons rfl (by kernel_rfl) (opens_int Try.underlying3) (tail_cons rfl (by kernel_rfl) (opens_int Try.underlying3) (tail_cons rfl (by kernel_rfl) (opens_any Try.underlying50) (tail_one rfl (by kernel_rfl) rfl (opens_bool Try.underlying4))))))) (fun p => (⟨p.1, p.2.1, p.2.2.1, p.2.2.2.1, p.2.2.2.2.1, p.2.2.2.2.2⟩ : S52)) (fun _ => rfl)) (fun _ _ => trivial)
theorem o69 : Opens enc Try.prog w sp 69 k69 (Dp w) :=
  opens_mono (opens_struct Try.underlying69 (by kernel_rfl) (tail_cons rfl (by kernel_rfl) (opens_int Try.underlying3) (tail_cons rfl (by kernel_rfl) (opens_int Try.underlying3) (tail_cons rfl (by kernel_rfl) (opens_string Try.underlying9) (tail_cons rfl (by kernel_rfl) o65 (tail_cons rfl (by kernel_rfl) (opens_int Try.underlying3) (tail_cons rfl (by kernel_rfl) (opens_int Try.underlying3) (tail_cons rfl (by kernel_rfl) (opens_int Try.underlying3) (tail_cons rfl (by kernel_rfl) (opens_int Try.underlying3) (tail_cons rfl (by kernel_rfl) (opens_int Try.underlying3) (tail_cons rfl (by kernel_rfl) (opens_row Try.underlying66 (by kernel_rfl) o80) (tail_one rfl (by kernel_rfl) rfl (opens_row Try.underlying67 (by kernel_rfl) o76)))))))))))) (fun p => (⟨p.1, p.2.1, p.2.2.1, p.2.2.2.1, p.2.2.2.2.1, p.2.2.2.2.2.1, p.2.2.2.2.2.2.1, p.2.2.2.2.2.2.2.1, p.2.2.2.2.2.2.2.2.1, p.2.2.2.2.2.2.2.2.2.1, p.2.2.2.2.2.2.2.2.2.2⟩ : S69)) (fun _ => rfl))
    (fun x h => by
      obtain ⟨-, -, -, -, -, -, -, -, -, ⟨os, h1, -, h2⟩, ⟨js, h3, -, h4⟩⟩ := h
      exact ⟨os, js, h1, h2, h3, h4⟩)
def k27 : Kd (RS × RS × RS) := Kd.iso (Kd.pair kRS (Kd.pair kRS kRS)) (fun x => x)
theorem o27 : Opens enc Try.prog w sp 27 k27 (fun _ => True) :=
  opens_mono (opens_struct Try.underlying27 (by kernel_rfl) (tail_cons rfl (by kernel_rfl) (opens_any Try.underlying23) (tail_cons rfl (by kernel_rfl) (opens_any Try.underlying24) (tail_one rfl (by kernel_rfl) rfl (opens_any Try.underlying25)))) (fun p => p) (fun _ => rfl)) (fun _ _ => trivial)
def k30 : Kd (Int × Int × RS) := Kd.iso (Kd.pair (Kd.int .i64) (Kd.pair (Kd.int .i64) kRS)) (fun x => x)
theorem o30 : Opens enc Try.prog w sp 30 k30 (fun _ => True) :=
  opens_mono (opens_struct Try.underlying30 (by kernel_rfl) (tail_cons rfl (by kernel_rfl) (opens_int Try.underlying3) (tail_cons rfl (by kernel_rfl) (opens_int Try.underlying3) (tail_one rfl (by kernel_rfl) rfl (opens_any Try.underlying28)))) (fun p => p) (fun _ => rfl)) (fun _ _ => trivial)
structure Gm where
  b : B
  win : Int
  P : RS
  U : RS
def k37 : Kd Gm := Kd.iso (Kd.pair (Kd.int .i64) (Kd.pair (Kd.int .i64) (Kd.pair (Kd.int .i64) (Kd.pair Kd.bool (Kd.pair (Kd.int .u64) (Kd.pair k27 (Kd.pair k30 (Kd.pair kRS (Kd.pair kRS (Kd.pair kRS (Kd.pair kRS kRS))))))))))) (fun x : Gm => (x.b.t, x.b.n, x.win, x.b.z, x.b.g, (x.b.r1, x.b.r2, x.b.r3), (x.b.mw, x.b.mh, x.b.mc), x.P, x.U, x.b.e1, x.b.e2, x.b.e3))
theorem k37_open {x : Gm} {cs : List Value} (h : k37.K w x cs) : cs = (gm x.b x.win x.P x.U).toList := by
  obtain ⟨_, _, rfl, rfl, ⟨_, _, rfl, rfl, ⟨_, _, rfl, rfl, ⟨_, _, rfl, rfl, ⟨_, _, rfl, rfl, ⟨_, _, rfl, ⟨_, _, rfl, rfl, ⟨_, _, rfl, rfl, rfl⟩⟩, ⟨_, _, rfl, ⟨_, _, rfl, rfl, ⟨_, _, rfl, rfl, rfl⟩⟩, ⟨_, _, rfl, rfl, ⟨_, _, rfl, rfl, ⟨_, _, rfl, rfl, ⟨_, _, rfl, rfl, rfl⟩⟩⟩⟩⟩⟩⟩⟩⟩⟩⟩ := h
  exact rfl
theorem fields37 : ∃ f0 f1 f2 f3 f4 f5 f6 f7 f8 f9 f10 f11 : Field, Try.prog.underlying 37 = some (.struct #[f0, f1, f2, f3, f4, f5, f6, f7, f8, f9, f10, f11]) ∧
    (f0.offset = 0 ∧ f0.type = 3) ∧ (f1.offset = 1 ∧ f1.type = 3) ∧ (f2.offset = 2 ∧ f2.type = 3) ∧ (f3.offset = 3 ∧ f3.type = 4) ∧ (f4.offset = 4 ∧ f4.type = 22) ∧ (f5.offset = 5 ∧ f5.type = 27) ∧ (f6.offset = 8 ∧ f6.type = 30) ∧ (f7.offset = 11 ∧ f7.type = 31) ∧ (f8.offset = 12 ∧ f8.type = 32) ∧ (f9.offset = 13 ∧ f9.type = 33) ∧ (f10.offset = 14 ∧ f10.type = 34) ∧ (f11.offset = 15 ∧ f11.type = 35) :=
  ⟨_, _, _, _, _, _, _, _, _, _, _, _, Try.underlying37, ⟨rfl, rfl⟩, ⟨rfl, rfl⟩, ⟨rfl, rfl⟩, ⟨rfl, rfl⟩, ⟨rfl, rfl⟩, ⟨rfl, rfl⟩, ⟨rfl, rfl⟩, ⟨rfl, rfl⟩, ⟨rfl, rfl⟩, ⟨rfl, rfl⟩, ⟨rfl, rfl⟩, ⟨rfl, rfl⟩⟩
set_option maxRecDepth 10000 in
theorem o37 : Opens enc Try.prog w sp 37 k37 (fun x => (∃ ps, Rw k52 w x.P ps) ∧ ∃ us, Rw k69 w x.U us ∧ ∀ y ∈ us, Dp w y) := by
  obtain ⟨f0, f1, f2, f3, f4, f5, f6, f7, f8, f9, f10, f11, hu, ⟨a0, b0⟩, ⟨a1, b1⟩, ⟨a2, b2⟩, ⟨a3, b3⟩, ⟨a4, b4⟩, ⟨a5, b5⟩, ⟨a6, b6⟩, ⟨a7, b7⟩, ⟨a8, b8⟩, ⟨a9, b9⟩, ⟨a10, b10⟩, ⟨a11, b11⟩⟩ := fields37
  have t11 := tail_one (off := 15) (tot := 16) a11 (by rw [b11]; kernel_rfl) rfl (by rw [b11]; exact opens_any (enc := enc) (w := w) (sp := sp) Try.underlying35)
  have t10 := tail_cons (off := 14) a10 (by rw [b10]; kernel_rfl) (by rw [b10]; exact opens_any (enc := enc) (w := w) (sp := sp) Try.underlying34) t11
  have t9 := tail_cons (off := 13) a9 (by rw [b9]; kernel_rfl) (by rw [b9]; exact opens_any (enc := enc) (w := w) (sp := sp) Try.underlying33) t10
  have t8 := tail_cons (off := 12) a8 (by rw [b8]; kernel_rfl) (by rw [b8]; exact opens_row (enc := enc) (w := w) (sp := sp) Try.underlying32 (by kernel_rfl) o69) t9
  have t7 := tail_cons (off := 11) a7 (by rw [b7]; kernel_rfl) (by rw [b7]; exact opens_row (enc := enc) (w := w) (sp := sp) Try.underlying31 (by kernel_rfl) o52) t8
  have t6 := tail_cons (off := 8) a6 (by rw [b6]; kernel_rfl) (by rw [b6]; exact o30 (enc := enc) (w := w) (sp := sp)) t7
  have t5 := tail_cons (off := 5) a5 (by rw [b5]; kernel_rfl) (by rw [b5]; exact o27 (enc := enc) (w := w) (sp := sp)) t6
  have t4 := tail_cons (off := 4) a4 (by rw [b4]; kernel_rfl) (by rw [b4]; exact opens_int (enc := enc) (w := w) (sp := sp) Try.underlying22) t5
  have t3 := tail_cons (off := 3) a3 (by rw [b3]; kernel_rfl) (by rw [b3]; exact opens_bool (enc := enc) (w := w) (sp := sp) Try.underlying4) t4
  have t2 := tail_cons (off := 2) a2 (by rw [b2]; kernel_rfl) (by rw [b2]; exact opens_int (enc := enc) (w := w) (sp := sp) Try.underlying3) t3
  have t1 := tail_cons (off := 1) a1 (by rw [b1]; kernel_rfl) (by rw [b1]; exact opens_int (enc := enc) (w := w) (sp := sp) Try.underlying3) t2
  have t0 := tail_cons (off := 0) a0 (by rw [b0]; kernel_rfl) (by rw [b0]; exact opens_int (enc := enc) (w := w) (sp := sp) Try.underlying3) t1
  refine opens_mono (opens_struct hu (by kernel_rfl) t0
    (fun p => (⟨⟨p.1, p.2.1, p.2.2.2.1, p.2.2.2.2.1, p.2.2.2.2.2.1.1, p.2.2.2.2.2.1.2.1, p.2.2.2.2.2.1.2.2, p.2.2.2.2.2.2.1.1, p.2.2.2.2.2.2.1.2.1, p.2.2.2.2.2.2.1.2.2, p.2.2.2.2.2.2.2.2.2.1, p.2.2.2.2.2.2.2.2.2.2.1, p.2.2.2.2.2.2.2.2.2.2.2⟩, p.2.2.1, p.2.2.2.2.2.2.2.1, p.2.2.2.2.2.2.2.2.1⟩ : Gm)) (fun _ => rfl))
    (fun x h => ?_)
  obtain ⟨-, -, -, -, -, -, -, ⟨ps, h1, -, -⟩, ⟨us, h2, h3, -⟩, -⟩ := h
  exact ⟨⟨ps, h1⟩, us, h2, h3⟩
/-- A game that comes in. -/
theorem open_game {cs : Array Value} {d : DataW H} {p : List MemPlace} (h : DataW.Trod enc Try.prog w 0 sp true 37 (.agg cs) d p) :
    ∃ (b : B) (win : Int) (P U : RS) (ps : List S52) (us : List S69), (Value.agg cs) = .agg (gm b win P U) ∧ Rw k52 w P ps ∧ Rw k69 w U us ∧ ∀ y ∈ us, Dp w y := by
  obtain ⟨fuel, hf⟩ := h
  obtain ⟨x, hk, ⟨ps, h1⟩, us, h2, h3⟩ := o37 fuel _ _ hf
  have h4 := k37_open hk
  refine ⟨x.b, x.win, x.P, x.U, ps, us, ?_, h1, h2, h3⟩
  have h5 : cs = gm x.b x.win x.P x.U := Array.toList_inj.1 h4
  rw [h5]
end
end Go.Proofs.Ytolcofjdjbnimaa.Opens
