/- Chapter 33: what the walks of its functions share: a game's cells (the rows that the chapter does not look into are carried along), its cells in memory, rows that are read. -/
import Derived.Test.YtolcofjdjbnimaaV0
import Derived.StillTailTactics
namespace Go.Proofs.Ytolcofjdjbnimaa.V
open Go.RowKit Go.Proofs.YtolcofjdjbnimaaW.PrintWords Go.Proofs.YtolcofjdjbnimaaW.PrintLast Go.Proofs.YtolcofjdjbnimaaW.PrintMore
set_option linter.unusedVariables false
set_option linter.unusedSimpArgs false

/-- A game's cells but those for the winner, the players, the entities. -/
structure B where
  t : Int
  n : Int
  z : Bool
  g : Int
  r1 : RS
  r2 : RS
  r3 : RS
  mw : Int
  mh : Int
  mc : RS
  e1 : RS
  e2 : RS
  e3 : RS
def B0 : B := ⟨0, 0, false, 0, RS0, RS0, RS0, 0, 0, RS0, RS0, RS0, RS0⟩
/-- A game's cells. -/
@[reducible] def gm (b : B) (win : Int) (P U : RS) : Array Value := #[.int .i64 b.t, .int .i64 b.n, .int .i64 win, .bool b.z, .int .u64 b.g, .slice b.r1.a b.r1.n b.r1.c, .slice b.r2.a b.r2.n b.r2.c, .slice b.r3.a b.r3.n b.r3.c, .int .i64 b.mw, .int .i64 b.mh, .slice b.mc.a b.mc.n b.mc.c, .slice P.a P.n P.c, .slice U.a U.n U.c, .slice b.e1.a b.e1.n b.e1.c, .slice b.e2.a b.e2.n b.e2.c, .slice b.e3.a b.e3.n b.e3.c]
@[reducible] def pl (p : S52) : Array Value := #[.int .i64 p.f0, .int .i64 p.f1, .int .i64 p.f2, .int .i64 p.f3, .slice p.f4.a p.f4.n p.f4.c, .bool p.f5]
@[reducible] def en (x : S69) : Array Value := #[.int .i64 x.f0, .int .i64 x.f1, .string x.f2, .int .i64 x.f3.f0, .int .i64 x.f3.f1, .int .i64 x.f4, .int .i64 x.f5, .int .i64 x.f6, .int .i64 x.f7, .int .i64 x.f8, .slice x.f9.a x.f9.n x.f9.c, .slice x.f10.a x.f10.n x.f10.c]
theorem cells_G {w : World} {g : Nat} {b : B} {win : Int} {P U : RS} (h : w.heap[g]? = some (.cells (gm b win P U) 37 (0, 0))) :
    w.cell? ⟨g, 0, none⟩ = some (.int .i64 b.t) ∧ w.cell? ⟨g, 1, none⟩ = some (.int .i64 b.n) ∧ w.cell? ⟨g, 2, none⟩ = some (.int .i64 win) ∧ w.cell? ⟨g, 3, none⟩ = some (.bool b.z) ∧ w.cell? ⟨g, 4, none⟩ = some (.int .u64 b.g) ∧ w.cell? ⟨g, 5, none⟩ = some (.slice b.r1.a b.r1.n b.r1.c) ∧ w.cell? ⟨g, 6, none⟩ = some (.slice b.r2.a b.r2.n b.r2.c) ∧ w.cell? ⟨g, 7, none⟩ = some (.slice b.r3.a b.r3.n b.r3.c) ∧ w.cell? ⟨g, 8, none⟩ = some (.int .i64 b.mw) ∧ w.cell? ⟨g, 9, none⟩ = some (.int .i64 b.mh) ∧ w.cell? ⟨g, 10, none⟩ = some (.slice b.mc.a b.mc.n b.mc.c) ∧ w.cell? ⟨g, 11, none⟩ = some (.slice P.a P.n P.c) ∧ w.cell? ⟨g, 12, none⟩ = some (.slice U.a U.n U.c) ∧ w.cell? ⟨g, 13, none⟩ = some (.slice b.e1.a b.e1.n b.e1.c) ∧ w.cell? ⟨g, 14, none⟩ = some (.slice b.e2.a b.e2.n b.e2.c) ∧ w.cell? ⟨g, 15, none⟩ = some (.slice b.e3.a b.e3.n b.e3.c) :=
  ⟨(blk_cell h 0).trans rfl, (blk_cell h 1).trans rfl, (blk_cell h 2).trans rfl, (blk_cell h 3).trans rfl, (blk_cell h 4).trans rfl, (blk_cell h 5).trans rfl, (blk_cell h 6).trans rfl, (blk_cell h 7).trans rfl, (blk_cell h 8).trans rfl, (blk_cell h 9).trans rfl, (blk_cell h 10).trans rfl, (blk_cell h 11).trans rfl, (blk_cell h 12).trans rfl, (blk_cell h 13).trans rfl, (blk_cell h 14).trans rfl, (blk_cell h 15).trans rfl⟩
theorem cells_P {w : World} {g : Nat} {p : S52} (h : w.heap[g]? = some (.cells (pl p) 52 (0, 0))) :
    w.cell? ⟨g, 0, none⟩ = some (.int .i64 p.f0) ∧ w.cell? ⟨g, 1, none⟩ = some (.int .i64 p.f1) ∧ w.cell? ⟨g, 2, none⟩ = some (.int .i64 p.f2) ∧ w.cell? ⟨g, 3, none⟩ = some (.int .i64 p.f3) ∧ w.cell? ⟨g, 4, none⟩ = some (.slice p.f4.a p.f4.n p.f4.c) ∧ w.cell? ⟨g, 5, none⟩ = some (.bool p.f5) :=
  ⟨(blk_cell h 0).trans rfl, (blk_cell h 1).trans rfl, (blk_cell h 2).trans rfl, (blk_cell h 3).trans rfl, (blk_cell h 4).trans rfl, (blk_cell h 5).trans rfl⟩
theorem cells_E {w : World} {g : Nat} {x : S69} (h : w.heap[g]? = some (.cells (en x) 69 (0, 0))) :
    w.cell? ⟨g, 0, none⟩ = some (.int .i64 x.f0) ∧ w.cell? ⟨g, 1, none⟩ = some (.int .i64 x.f1) ∧ w.cell? ⟨g, 2, none⟩ = some (.string x.f2) ∧ w.cell? ⟨g, 3, none⟩ = some (.int .i64 x.f3.f0) ∧ w.cell? ⟨g, 4, none⟩ = some (.int .i64 x.f3.f1) ∧ w.cell? ⟨g, 5, none⟩ = some (.int .i64 x.f4) ∧ w.cell? ⟨g, 6, none⟩ = some (.int .i64 x.f5) ∧ w.cell? ⟨g, 7, none⟩ = some (.int .i64 x.f6) ∧ w.cell? ⟨g, 8, none⟩ = some (.int .i64 x.f7) ∧ w.cell? ⟨g, 9, none⟩ = some (.int .i64 x.f8) ∧ w.cell? ⟨g, 10, none⟩ = some (.slice x.f9.a x.f9.n x.f9.c) ∧ w.cell? ⟨g, 11, none⟩ = some (.slice x.f10.a x.f10.n x.f10.c) :=
  ⟨(blk_cell h 0).trans rfl, (blk_cell h 1).trans rfl, (blk_cell h 2).trans rfl, (blk_cell h 3).trans rfl, (blk_cell h 4).trans rfl, (blk_cell h 5).trans rfl, (blk_cell h 6).trans rfl, (blk_cell h 7).trans rfl, (blk_cell h 8).trans rfl, (blk_cell h 9).trans rfl, (blk_cell h 10).trans rfl, (blk_cell h 11).trans rfl⟩
/-- A row that is read. -/
structure Rw {α : Type} (k : Kd α) (w : World) (P : RS) (xs : List α) : Prop where
  c : Kd.C k w P.a P.n xs
  len : P.n = xs.length
  cap : P.n ≤ P.c
theorem Rw.below {α : Type} {k : Kd α} {w w1 : World} {P : RS} {xs : List α} (h : Rw k w P xs) (hb : Below w.heap.size w w1) : Rw k w1 P xs := ⟨Kd.C_below h.c hb, h.len, h.cap⟩
theorem Rw.alloc {α : Type} {k : Kd α} {w : World} {P : RS} {xs : List α} (h : Rw k w P xs) (o : Obj) : Rw k (w.alloc o) P xs := ⟨Kd.C_alloc h.c o, h.len, h.cap⟩
theorem Rw.drew {α : Type} {k : Kd α} {w : World} {P : RS} {xs : List α} (h : Rw k w P xs) : Rw k w.drew P xs := ⟨Kd.C_drew h.c, h.len, h.cap⟩
theorem Rw.drewN {α : Type} {k : Kd α} {w : World} {P : RS} {xs : List α} (h : Rw k w P xs) (n : Nat) : Rw k (w.drewN n) P xs := ⟨Kd.C_drewN h.c n, h.len, h.cap⟩
/-- An element of a row, in a later world. -/
theorem at_P {w w1 : World} {P : RS} {xs : List S52} (h : Rw k52 w P xs) (hb : Below w.heap.size w w1) (i : Int) (h0 : 0 ≤ i) (h1 : i < P.n) : ∃ ad, P.a = some ad ∧ w1.cell? (ad.add (i.toNat * 6)) = some (.int .i64 (rd_T52 xs i).f0) ∧ w1.cell? ⟨(ad.add (i.toNat * 6)).block, (ad.add (i.toNat * 6)).off + 1, none⟩ = some (.int .i64 (rd_T52 xs i).f1) ∧ w1.cell? ⟨(ad.add (i.toNat * 6)).block, (ad.add (i.toNat * 6)).off + 2, none⟩ = some (.int .i64 (rd_T52 xs i).f2) ∧ w1.cell? ⟨(ad.add (i.toNat * 6)).block, (ad.add (i.toNat * 6)).off + 3, none⟩ = some (.int .i64 (rd_T52 xs i).f3) ∧ w1.cell? ⟨(ad.add (i.toNat * 6)).block, (ad.add (i.toNat * 6)).off + 4, none⟩ = some (.slice (rd_T52 xs i).f4.a (rd_T52 xs i).f4.n (rd_T52 xs i).f4.c) ∧ w1.cell? ⟨(ad.add (i.toNat * 6)).block, (ad.add (i.toNat * 6)).off + 5, none⟩ = some (.bool (rd_T52 xs i).f5) :=
  at_T52 (h.below hb).c i h0 h1
theorem at_E {w w1 : World} {P : RS} {xs : List S69} (h : Rw k69 w P xs) (hb : Below w.heap.size w w1) (i : Int) (h0 : 0 ≤ i) (h1 : i < P.n) : ∃ ad , P.a = some ad ∧ w1.cell? (ad.add (i.toNat * 12)) = some (.int .i64 (rd_T69 xs i).f0) ∧ w1.cell? ⟨(ad.add (i.toNat * 12)).block, (ad.add (i.toNat * 12)).off + 1, none⟩ = some (.int .i64 (rd_T69 xs i).f1) ∧ w1.cell? ⟨(ad.add (i.toNat * 12)).block, (ad.add (i.toNat * 12)).off + 2, none⟩ = some (.string (rd_T69 xs i).f2) ∧ w1.cell? ⟨(ad.add (i.toNat * 12)).block, (ad.add (i.toNat * 12)).off + 3, none⟩ = some (.int .i64 (rd_T69 xs i).f3.f0) ∧ w1.cell? ⟨(ad.add (i.toNat * 12)).block, (ad.add (i.toNat * 12)).off + 4, none⟩ = some (.int .i64 (rd_T69 xs i).f3.f1) ∧ w1.cell? ⟨(ad.add (i.toNat * 12)).block, (ad.add (i.toNat * 12)).off + 5, none⟩ = some (.int .i64 (rd_T69 xs i).f4) ∧ w1.cell? ⟨(ad.add (i.toNat * 12)).block, (ad.add (i.toNat * 12)).off + 6, none⟩ = some (.int .i64 (rd_T69 xs i).f5) ∧ w1.cell? ⟨(ad.add (i.toNat * 12)).block, (ad.add (i.toNat * 12)).off + 7, none⟩ = some (.int .i64 (rd_T69 xs i).f6) ∧ w1.cell? ⟨(ad.add (i.toNat * 12)).block, (ad.add (i.toNat * 12)).off + 8, none⟩ = some (.int .i64 (rd_T69 xs i).f7) ∧ w1.cell? ⟨(ad.add (i.toNat * 12)).block, (ad.add (i.toNat * 12)).off + 9, none⟩ = some (.int .i64 (rd_T69 xs i).f8) ∧ w1.cell? ⟨(ad.add (i.toNat * 12)).block, (ad.add (i.toNat * 12)).off + 10, none⟩ = some (.slice (rd_T69 xs i).f9.a (rd_T69 xs i).f9.n (rd_T69 xs i).f9.c) ∧ w1.cell? ⟨(ad.add (i.toNat * 12)).block, (ad.add (i.toNat * 12)).off + 11, none⟩ = some (.slice (rd_T69 xs i).f10.a (rd_T69 xs i).f10.n (rd_T69 xs i).f10.c) :=
  at_T69 (h.below hb).c i h0 h1
theorem at_V {w w1 : World} {P : RS} {xs : List S62} (h : Rw k62 w P xs) (hb : Below w.heap.size w w1) (i : Int) (h0 : 0 ≤ i) (h1 : i < P.n) : ∃ ad , P.a = some ad ∧ w1.cell? (ad.add (i.toNat * 4)) = some (.int .i64 (rd_T62 xs i).f0) ∧ w1.cell? ⟨(ad.add (i.toNat * 4)).block, (ad.add (i.toNat * 4)).off + 1, none⟩ = some (.int .i64 (rd_T62 xs i).f1) ∧ w1.cell? ⟨(ad.add (i.toNat * 4)).block, (ad.add (i.toNat * 4)).off + 2, none⟩ = some (.int .i64 (rd_T62 xs i).f2) ∧ w1.cell? ⟨(ad.add (i.toNat * 4)).block, (ad.add (i.toNat * 4)).off + 3, none⟩ = some (.string (rd_T62 xs i).f3) :=
  at_T62 (h.below hb).c i h0 h1
end Go.Proofs.Ytolcofjdjbnimaa.V
