/-
  No cell of these rows narrows 'for every input' (looked for: loops, veiled, ifaces, maps, wideKeys, modest, calm, conditions, laid).
  DERIVED. THE GIVEN ROWS OF THIS SEAT. 6 by the template 'for every input the law returns true; each argument reads behind the call as it read before'; 0 by the template 'total and deterministic' (their statements: YtdjndjgafdfkaaaTotals.lean).
  GIVEN WITH THE SEED: the statements are not yours to turn. If you find one false, say at which input.
  Laid BY PROGRAM, IN A SANDBOX (cutbox-rows.mjs): the forced cells as the released guide's own fill.sh prints them over the translation b290c5fa568031fe… (all of the seat's roots in one cut). By AI agents, Wed Nov 11 2026. No macro, syntax, notation, axiom, sorry.
-/
import Derived.Test.YtdjndjgafdfkaaaChecked
import GoSem.Claim
import GoSem.ClaimJoined
import GoSem.ClaimMapViews
import Derived.JoinedTies
import Derived.KernelRfl
namespace Go.Proofs.Ytdjndjgafdfkaaa
/- THE CELL 'sum', in the pinned program and in every row, IS THE sha256 OF THE DUMP (.gsa) THAT YtdjndjgafdfkaaaProg.lean LOADS. Nothing in Lean hashes anything: it is a label: what it is worth is what the hold of that sum in a sandbox is worth. -/
noncomputable def Try.pinned : Pinned := { name := "ytdjndjgafdfkaaa", sum := "b290c5fa568031fe1e5aa6f4b924015e75d3be498e96ce953344d27adf05e929", checked := Try.checked }
namespace Rows
def none {H : Type} : Left H := { results := [], args := [] }

/-- 'skirmishlaw04.WireUints': WHATEVER THE INPUT: true; the input reads as it did. -/
def wireUintsSpec : ChangeSpec := { name := "wireUints", fn := fun _ => fun
  | [d1, d2, d3] => { results := [.lit (.bool true)], args := [d1, d2, d3] }
  | _ => none }
def wireUintsRow : OpenClaim := { program := "ytdjndjgafdfkaaa", sum := "b290c5fa568031fe1e5aa6f4b924015e75d3be498e96ce953344d27adf05e929", func := "skirmish/skirmishlaw04.WireUints", spec := "wireUints", apart := false }
def WireUintsSaid : Prop := wireUintsRow.holds Try.pinned (OpenSpec.ofChange wireUintsSpec)

/-- ITS FALSE NEIGHBOUR: 'it returns false'. Refute it at one input. -/
def wireUintsWrong : ChangeSpec := { name := "wireUints", fn := fun _ => fun
  | [d1, d2, d3] => { results := [.lit (.bool false)], args := [d1, d2, d3] }
  | _ => none }
def WireUintsWrongFalsely : Prop := wireUintsRow.holds Try.pinned (OpenSpec.ofChange wireUintsWrong)

/-- 'skirmishlaw04.WireInts': WHATEVER THE INPUT: true; the input reads as it did. -/
def wireIntsSpec : ChangeSpec := { name := "wireInts", fn := fun _ => fun
  | [d1, d2, d3] => { results := [.lit (.bool true)], args := [d1, d2, d3] }
  | _ => none }
def wireIntsRow : OpenClaim := { program := "ytdjndjgafdfkaaa", sum := "b290c5fa568031fe1e5aa6f4b924015e75d3be498e96ce953344d27adf05e929", func := "skirmish/skirmishlaw04.WireInts", spec := "wireInts", apart := false }
def WireIntsSaid : Prop := wireIntsRow.holds Try.pinned (OpenSpec.ofChange wireIntsSpec)

/-- ITS FALSE NEIGHBOUR: 'it returns false'. Refute it at one input. -/
def wireIntsWrong : ChangeSpec := { name := "wireInts", fn := fun _ => fun
  | [d1, d2, d3] => { results := [.lit (.bool false)], args := [d1, d2, d3] }
  | _ => none }
def WireIntsWrongFalsely : Prop := wireIntsRow.holds Try.pinned (OpenSpec.ofChange wireIntsWrong)

/-- 'skirmishlaw04.WireTexts': WHATEVER THE INPUT: true; the input reads as it did. -/
def wireTextsSpec : ChangeSpec := { name := "wireTexts", fn := fun _ => fun
  | [d1, d2, d3] => { results := [.lit (.bool true)], args := [d1, d2, d3] }
  | _ => none }
def wireTextsRow : OpenClaim := { program := "ytdjndjgafdfkaaa", sum := "b290c5fa568031fe1e5aa6f4b924015e75d3be498e96ce953344d27adf05e929", func := "skirmish/skirmishlaw04.WireTexts", spec := "wireTexts", apart := false }
def WireTextsSaid : Prop := wireTextsRow.holds Try.pinned (OpenSpec.ofChange wireTextsSpec)

/-- ITS FALSE NEIGHBOUR: 'it returns false'. Refute it at one input. -/
def wireTextsWrong : ChangeSpec := { name := "wireTexts", fn := fun _ => fun
  | [d1, d2, d3] => { results := [.lit (.bool false)], args := [d1, d2, d3] }
  | _ => none }
def WireTextsWrongFalsely : Prop := wireTextsRow.holds Try.pinned (OpenSpec.ofChange wireTextsWrong)

/-- 'skirmishlaw04.WireRoundTrips': WHATEVER THE INPUT: true; the input reads as it did. -/
def wireRoundTripsSpec : ChangeSpec := { name := "wireRoundTrips", fn := fun _ => fun
  | [d1, d2, d3] => { results := [.lit (.bool true)], args := [d1, d2, d3] }
  | _ => none }
def wireRoundTripsRow : OpenClaim := { program := "ytdjndjgafdfkaaa", sum := "b290c5fa568031fe1e5aa6f4b924015e75d3be498e96ce953344d27adf05e929", func := "skirmish/skirmishlaw04.WireRoundTrips", spec := "wireRoundTrips", apart := false }
def WireRoundTripsSaid : Prop := wireRoundTripsRow.holds Try.pinned (OpenSpec.ofChange wireRoundTripsSpec)

/-- ITS FALSE NEIGHBOUR: 'it returns false'. Refute it at one input. -/
def wireRoundTripsWrong : ChangeSpec := { name := "wireRoundTrips", fn := fun _ => fun
  | [d1, d2, d3] => { results := [.lit (.bool false)], args := [d1, d2, d3] }
  | _ => none }
def WireRoundTripsWrongFalsely : Prop := wireRoundTripsRow.holds Try.pinned (OpenSpec.ofChange wireRoundTripsWrong)

/-- 'skirmishlaw04.WireBools': WHATEVER THE INPUT: true; the input reads as it did. -/
def wireBoolsSpec : ChangeSpec := { name := "wireBools", fn := fun _ => fun
  | [d1, d2, d3] => { results := [.lit (.bool true)], args := [d1, d2, d3] }
  | _ => none }
def wireBoolsRow : OpenClaim := { program := "ytdjndjgafdfkaaa", sum := "b290c5fa568031fe1e5aa6f4b924015e75d3be498e96ce953344d27adf05e929", func := "skirmish/skirmishlaw04.WireBools", spec := "wireBools", apart := false }
def WireBoolsSaid : Prop := wireBoolsRow.holds Try.pinned (OpenSpec.ofChange wireBoolsSpec)

/-- ITS FALSE NEIGHBOUR: 'it returns false'. Refute it at one input. -/
def wireBoolsWrong : ChangeSpec := { name := "wireBools", fn := fun _ => fun
  | [d1, d2, d3] => { results := [.lit (.bool false)], args := [d1, d2, d3] }
  | _ => none }
def WireBoolsWrongFalsely : Prop := wireBoolsRow.holds Try.pinned (OpenSpec.ofChange wireBoolsWrong)

/-- 'skirmishlaw04.WireCut': WHATEVER THE INPUT: true; the input reads as it did. -/
def wireCutSpec : ChangeSpec := { name := "wireCut", fn := fun _ => fun
  | [d1, d2, d3] => { results := [.lit (.bool true)], args := [d1, d2, d3] }
  | _ => none }
def wireCutRow : OpenClaim := { program := "ytdjndjgafdfkaaa", sum := "b290c5fa568031fe1e5aa6f4b924015e75d3be498e96ce953344d27adf05e929", func := "skirmish/skirmishlaw04.WireCut", spec := "wireCut", apart := false }
def WireCutSaid : Prop := wireCutRow.holds Try.pinned (OpenSpec.ofChange wireCutSpec)

/-- ITS FALSE NEIGHBOUR: 'it returns false'. Refute it at one input. -/
def wireCutWrong : ChangeSpec := { name := "wireCut", fn := fun _ => fun
  | [d1, d2, d3] => { results := [.lit (.bool false)], args := [d1, d2, d3] }
  | _ => none }
def WireCutWrongFalsely : Prop := wireCutRow.holds Try.pinned (OpenSpec.ofChange wireCutWrong)

/- THE SECOND FORM. 'bulk': how many values and letters a reading holds, each counted each time it is reached (what is shared counts as often as it is met; a slice's spare places count too). A statement '..UptoSaid' is the law's where the arguments, and the package variables that the reading takes, are together of bulk at most 1048576: NARROWER than '..Said'. Prove '..Said' where nothing that the law and all that it calls make is longer than what came in: it says more and counts as full. Else prove '..UptoSaid'. A law counts once. -/
mutual
def uptoBulk {H : Type} : DataW H → Nat
  | .lit (.string bytes) => bytes.length + 1
  | .lit _ => 1
  | .nil => 1
  | .ptr d => uptoBulk d + 1
  | .slice elems spare => uptoBulkAll elems + uptoBulkAll spare + 1
  | .agg parts => uptoBulkAll parts + 1
  | .iface _ d => uptoBulk d + 1
  | .map entries => uptoBulkEntries entries + 1
  | .held _ => 1
def uptoBulkAll {H : Type} : List (DataW H) → Nat
  | [] => 0
  | d :: r => uptoBulk d + uptoBulkAll r
def uptoBulkEntries {H : Type} : List (Lit × DataW H) → Nat
  | [] => 0
  | x :: r => uptoBulkEntry x + uptoBulkEntries r
def uptoBulkEntry {H : Type} : Lit × DataW H → Nat
  | (.string bytes, d) => bytes.length + uptoBulk d + 1
  | (_, d) => uptoBulk d + 1
 end
def uptoSmall : (H : Type) → List (DataW H) → Bool := fun _ ds => decide (uptoBulkAll ds ≤ 1048576)
def OpenSpec.upto (s : _root_.Go.ChangeSpec) : _root_.Go.OpenSpec := { _root_.Go.OpenSpec.ofChange s with cond := some uptoSmall }

/-- 'skirmishlaw04.WireUints', WHERE WHAT IT READS IS OF BULK AT MOST 1048576: true; the input reads as it did. -/
def wireUintsUptoRow : OpenClaim := { program := "ytdjndjgafdfkaaa", sum := "b290c5fa568031fe1e5aa6f4b924015e75d3be498e96ce953344d27adf05e929", func := "skirmish/skirmishlaw04.WireUints", spec := "wireUints", apart := false, narrowed := true }
def WireUintsUptoSaid : Prop := wireUintsUptoRow.holds Try.pinned (OpenSpec.upto wireUintsSpec)

/-- 'skirmishlaw04.WireInts', WHERE WHAT IT READS IS OF BULK AT MOST 1048576: true; the input reads as it did. -/
def wireIntsUptoRow : OpenClaim := { program := "ytdjndjgafdfkaaa", sum := "b290c5fa568031fe1e5aa6f4b924015e75d3be498e96ce953344d27adf05e929", func := "skirmish/skirmishlaw04.WireInts", spec := "wireInts", apart := false, narrowed := true }
def WireIntsUptoSaid : Prop := wireIntsUptoRow.holds Try.pinned (OpenSpec.upto wireIntsSpec)

/-- 'skirmishlaw04.WireTexts', WHERE WHAT IT READS IS OF BULK AT MOST 1048576: true; the input reads as it did. -/
def wireTextsUptoRow : OpenClaim := { program := "ytdjndjgafdfkaaa", sum := "b290c5fa568031fe1e5aa6f4b924015e75d3be498e96ce953344d27adf05e929", func := "skirmish/skirmishlaw04.WireTexts", spec := "wireTexts", apart := false, narrowed := true }
def WireTextsUptoSaid : Prop := wireTextsUptoRow.holds Try.pinned (OpenSpec.upto wireTextsSpec)

/-- 'skirmishlaw04.WireRoundTrips', WHERE WHAT IT READS IS OF BULK AT MOST 1048576: true; the input reads as it did. -/
def wireRoundTripsUptoRow : OpenClaim := { program := "ytdjndjgafdfkaaa", sum := "b290c5fa568031fe1e5aa6f4b924015e75d3be498e96ce953344d27adf05e929", func := "skirmish/skirmishlaw04.WireRoundTrips", spec := "wireRoundTrips", apart := false, narrowed := true }
def WireRoundTripsUptoSaid : Prop := wireRoundTripsUptoRow.holds Try.pinned (OpenSpec.upto wireRoundTripsSpec)

/-- 'skirmishlaw04.WireBools', WHERE WHAT IT READS IS OF BULK AT MOST 1048576: true; the input reads as it did. -/
def wireBoolsUptoRow : OpenClaim := { program := "ytdjndjgafdfkaaa", sum := "b290c5fa568031fe1e5aa6f4b924015e75d3be498e96ce953344d27adf05e929", func := "skirmish/skirmishlaw04.WireBools", spec := "wireBools", apart := false, narrowed := true }
def WireBoolsUptoSaid : Prop := wireBoolsUptoRow.holds Try.pinned (OpenSpec.upto wireBoolsSpec)

/-- 'skirmishlaw04.WireCut', WHERE WHAT IT READS IS OF BULK AT MOST 1048576: true; the input reads as it did. -/
def wireCutUptoRow : OpenClaim := { program := "ytdjndjgafdfkaaa", sum := "b290c5fa568031fe1e5aa6f4b924015e75d3be498e96ce953344d27adf05e929", func := "skirmish/skirmishlaw04.WireCut", spec := "wireCut", apart := false, narrowed := true }
def WireCutUptoSaid : Prop := wireCutUptoRow.holds Try.pinned (OpenSpec.upto wireCutSpec)

end Rows
end Go.Proofs.Ytdjndjgafdfkaaa
