/-
  No cell of these rows narrows 'for every input' (looked for: loops, veiled, ifaces, maps, wideKeys, modest, calm, conditions, laid).
  DERIVED. THE GIVEN ROWS OF THIS SEAT. 6 by the template 'for every input the law returns true; each argument reads behind the call as it read before'; 0 by the template 'total and deterministic' (their statements: YtbclljolofbfdaaTotals.lean).
  GIVEN WITH THE SEED: the statements are not yours to turn. If you find one false, say at which input.
  Laid BY PROGRAM, IN A SANDBOX (cutbox-rows.mjs): the forced cells as the released guide's own fill.sh prints them over the translation 9e4e4e1a0c98714c… (all of the seat's roots in one cut). By AI agents, Wed Nov 11 2026. No macro, syntax, notation, axiom, sorry.
-/
import Derived.Test.YtbclljolofbfdaaChecked
import GoSem.Claim
import GoSem.ClaimJoined
import GoSem.ClaimMapViews
import Derived.JoinedTies
import Derived.KernelRfl
namespace Go.Proofs.Ytbclljolofbfdaa
/- THE CELL 'sum', in the pinned program and in every row, IS THE sha256 OF THE DUMP (.gsa) THAT YtbclljolofbfdaaProg.lean LOADS. Nothing in Lean hashes anything: it is a label: what it is worth is what the hold of that sum in a sandbox is worth. -/
noncomputable def Try.pinned : Pinned := { name := "ytbclljolofbfdaa", sum := "9e4e4e1a0c98714c66f3dc766302092289c443a6bb12708bbadfa3d9f645590c", checked := Try.checked }
namespace Rows
def none {H : Type} : Left H := { results := [], args := [] }

/-- 'skirmishlaw20.OrdersRoundTrip': WHATEVER THE INPUT: true; the input reads as it did. -/
def ordersRoundTripSpec : ChangeSpec := { name := "ordersRoundTrip", fn := fun _ => fun
  | [d1, d2, d3] => { results := [.lit (.bool true)], args := [d1, d2, d3] }
  | _ => none }
def ordersRoundTripRow : OpenClaim := { program := "ytbclljolofbfdaa", sum := "9e4e4e1a0c98714c66f3dc766302092289c443a6bb12708bbadfa3d9f645590c", func := "skirmish/skirmishlaw20.OrdersRoundTrip", spec := "ordersRoundTrip", inPlace := ["internal/abi.NoEscape"], unfollowed := true, recurses := true, apart := false }
def OrdersRoundTripSaid : Prop := ordersRoundTripRow.holds Try.pinned (OpenSpec.ofChange ordersRoundTripSpec)

/-- ITS FALSE NEIGHBOUR: 'it returns false'. Refute it at one input. -/
def ordersRoundTripWrong : ChangeSpec := { name := "ordersRoundTrip", fn := fun _ => fun
  | [d1, d2, d3] => { results := [.lit (.bool false)], args := [d1, d2, d3] }
  | _ => none }
def OrdersRoundTripWrongFalsely : Prop := ordersRoundTripRow.holds Try.pinned (OpenSpec.ofChange ordersRoundTripWrong)

/-- 'skirmishlaw20.OrdersPatrols': WHATEVER THE INPUT: true; the input reads as it did. -/
def ordersPatrolsSpec : ChangeSpec := { name := "ordersPatrols", fn := fun _ => fun
  | [d] => { results := [.lit (.bool true)], args := [d] }
  | _ => none }
def ordersPatrolsRow : OpenClaim := { program := "ytbclljolofbfdaa", sum := "9e4e4e1a0c98714c66f3dc766302092289c443a6bb12708bbadfa3d9f645590c", func := "skirmish/skirmishlaw20.OrdersPatrols", spec := "ordersPatrols", inPlace := ["internal/abi.NoEscape"], unfollowed := true, recurses := true, apart := false }
def OrdersPatrolsSaid : Prop := ordersPatrolsRow.holds Try.pinned (OpenSpec.ofChange ordersPatrolsSpec)

/-- ITS FALSE NEIGHBOUR: 'it returns false'. Refute it at one input. -/
def ordersPatrolsWrong : ChangeSpec := { name := "ordersPatrols", fn := fun _ => fun
  | [d] => { results := [.lit (.bool false)], args := [d] }
  | _ => none }
def OrdersPatrolsWrongFalsely : Prop := ordersPatrolsRow.holds Try.pinned (OpenSpec.ofChange ordersPatrolsWrong)

/-- 'skirmishlaw20.OrdersGives': WHATEVER THE INPUT: true; the input reads as it did. -/
def ordersGivesSpec : ChangeSpec := { name := "ordersGives", fn := fun _ => fun
  | [d1, d2, d3] => { results := [.lit (.bool true)], args := [d1, d2, d3] }
  | _ => none }
def ordersGivesRow : OpenClaim := { program := "ytbclljolofbfdaa", sum := "9e4e4e1a0c98714c66f3dc766302092289c443a6bb12708bbadfa3d9f645590c", func := "skirmish/skirmishlaw20.OrdersGives", spec := "ordersGives", inPlace := ["internal/abi.NoEscape"], unfollowed := true, recurses := true, apart := false }
def OrdersGivesSaid : Prop := ordersGivesRow.holds Try.pinned (OpenSpec.ofChange ordersGivesSpec)

/-- ITS FALSE NEIGHBOUR: 'it returns false'. Refute it at one input. -/
def ordersGivesWrong : ChangeSpec := { name := "ordersGives", fn := fun _ => fun
  | [d1, d2, d3] => { results := [.lit (.bool false)], args := [d1, d2, d3] }
  | _ => none }
def OrdersGivesWrongFalsely : Prop := ordersGivesRow.holds Try.pinned (OpenSpec.ofChange ordersGivesWrong)

/-- 'skirmishlaw20.OrdersEnds': WHATEVER THE INPUT: true; the input reads as it did. -/
def ordersEndsSpec : ChangeSpec := { name := "ordersEnds", fn := fun _ => fun
  | [d] => { results := [.lit (.bool true)], args := [d] }
  | _ => none }
def ordersEndsRow : OpenClaim := { program := "ytbclljolofbfdaa", sum := "9e4e4e1a0c98714c66f3dc766302092289c443a6bb12708bbadfa3d9f645590c", func := "skirmish/skirmishlaw20.OrdersEnds", spec := "ordersEnds", inPlace := ["internal/abi.NoEscape"], unfollowed := true, recurses := true, apart := false }
def OrdersEndsSaid : Prop := ordersEndsRow.holds Try.pinned (OpenSpec.ofChange ordersEndsSpec)

/-- ITS FALSE NEIGHBOUR: 'it returns false'. Refute it at one input. -/
def ordersEndsWrong : ChangeSpec := { name := "ordersEnds", fn := fun _ => fun
  | [d] => { results := [.lit (.bool false)], args := [d] }
  | _ => none }
def OrdersEndsWrongFalsely : Prop := ordersEndsRow.holds Try.pinned (OpenSpec.ofChange ordersEndsWrong)

/-- 'skirmishlaw20.OrdersEncodes': WHATEVER THE INPUT: true; the input reads as it did. -/
def ordersEncodesSpec : ChangeSpec := { name := "ordersEncodes", fn := fun _ => fun
  | [d] => { results := [.lit (.bool true)], args := [d] }
  | _ => none }
def ordersEncodesRow : OpenClaim := { program := "ytbclljolofbfdaa", sum := "9e4e4e1a0c98714c66f3dc766302092289c443a6bb12708bbadfa3d9f645590c", func := "skirmish/skirmishlaw20.OrdersEncodes", spec := "ordersEncodes", inPlace := ["internal/abi.NoEscape"], unfollowed := true, recurses := true, apart := false }
def OrdersEncodesSaid : Prop := ordersEncodesRow.holds Try.pinned (OpenSpec.ofChange ordersEncodesSpec)

/-- ITS FALSE NEIGHBOUR: 'it returns false'. Refute it at one input. -/
def ordersEncodesWrong : ChangeSpec := { name := "ordersEncodes", fn := fun _ => fun
  | [d] => { results := [.lit (.bool false)], args := [d] }
  | _ => none }
def OrdersEncodesWrongFalsely : Prop := ordersEncodesRow.holds Try.pinned (OpenSpec.ofChange ordersEncodesWrong)

/-- 'skirmishlaw20.OrdersDecodes': WHATEVER THE INPUT: true; the input reads as it did. -/
def ordersDecodesSpec : ChangeSpec := { name := "ordersDecodes", fn := fun _ => fun
  | [d1, d2] => { results := [.lit (.bool true)], args := [d1, d2] }
  | _ => none }
def ordersDecodesRow : OpenClaim := { program := "ytbclljolofbfdaa", sum := "9e4e4e1a0c98714c66f3dc766302092289c443a6bb12708bbadfa3d9f645590c", func := "skirmish/skirmishlaw20.OrdersDecodes", spec := "ordersDecodes", inPlace := ["internal/abi.NoEscape"], unfollowed := true, recurses := true, apart := false }
def OrdersDecodesSaid : Prop := ordersDecodesRow.holds Try.pinned (OpenSpec.ofChange ordersDecodesSpec)

/-- ITS FALSE NEIGHBOUR: 'it returns false'. Refute it at one input. -/
def ordersDecodesWrong : ChangeSpec := { name := "ordersDecodes", fn := fun _ => fun
  | [d1, d2] => { results := [.lit (.bool false)], args := [d1, d2] }
  | _ => none }
def OrdersDecodesWrongFalsely : Prop := ordersDecodesRow.holds Try.pinned (OpenSpec.ofChange ordersDecodesWrong)

/- THE SECOND FORM. 'bulk': how many values and letters a reading holds, each counted each time it is reached (what is shared counts as often as it is met; a slice's spare places count too). A statement '..UptoSaid' is the law's where the arguments, and the package variables that the reading takes, are together of bulk at most 1048576: NARROWER than '..Said'. Prove '..Said' where nothing that the law and all that it calls make is longer than what came in: it says more and counts as full. Else prove '..UptoSaid'. A law counts once. -/
mutual
def uptoBulk {H : Type} : DataW H → Nat
  | .lit (.string bytes) => bytes.length + 1
  | .lit _ => 1
  | .nil => 1
  | .ptr d => uptoBulk d + 1
  | .slice elems spare => uptoBulkAll elems + uptoBulkAll spare + 1
  | .agg parts => uptoBulkAll parts + 1
  | .iface _ d => uptoBulk d + 1
  | .map entries => uptoBulkEntries entries + 1
  | .held _ => 1
def uptoBulkAll {H : Type} : List (DataW H) → Nat
  | [] => 0
  | d :: r => uptoBulk d + uptoBulkAll r
def uptoBulkEntries {H : Type} : List (Lit × DataW H) → Nat
  | [] => 0
  | x :: r => uptoBulkEntry x + uptoBulkEntries r
def uptoBulkEntry {H : Type} : Lit × DataW H → Nat
  | (.string bytes, d) => bytes.length + uptoBulk d + 1
  | (_, d) => uptoBulk d + 1
 end
def uptoSmall : (H : Type) → List (DataW H) → Bool := fun _ ds => decide (uptoBulkAll ds ≤ 1048576)
def OpenSpec.upto (s : _root_.Go.ChangeSpec) : _root_.Go.OpenSpec := { _root_.Go.OpenSpec.ofChange s with cond := some uptoSmall }

/-- 'skirmishlaw20.OrdersRoundTrip', WHERE WHAT IT READS IS OF BULK AT MOST 1048576: true; the input reads as it did. -/
def ordersRoundTripUptoRow : OpenClaim := { program := "ytbclljolofbfdaa", sum := "9e4e4e1a0c98714c66f3dc766302092289c443a6bb12708bbadfa3d9f645590c", func := "skirmish/skirmishlaw20.OrdersRoundTrip", spec := "ordersRoundTrip", inPlace := ["internal/abi.NoEscape"], unfollowed := true, recurses := true, apart := false, narrowed := true }
def OrdersRoundTripUptoSaid : Prop := ordersRoundTripUptoRow.holds Try.pinned (OpenSpec.upto ordersRoundTripSpec)

/-- 'skirmishlaw20.OrdersPatrols', WHERE WHAT IT READS IS OF BULK AT MOST 1048576: true; the input reads as it did. -/
def ordersPatrolsUptoRow : OpenClaim := { program := "ytbclljolofbfdaa", sum := "9e4e4e1a0c98714c66f3dc766302092289c443a6bb12708bbadfa3d9f645590c", func := "skirmish/skirmishlaw20.OrdersPatrols", spec := "ordersPatrols", inPlace := ["internal/abi.NoEscape"], unfollowed := true, recurses := true, apart := false, narrowed := true }
def OrdersPatrolsUptoSaid : Prop := ordersPatrolsUptoRow.holds Try.pinned (OpenSpec.upto ordersPatrolsSpec)

/-- 'skirmishlaw20.OrdersGives', WHERE WHAT IT READS IS OF BULK AT MOST 1048576: true; the input reads as it did. -/
def ordersGivesUptoRow : OpenClaim := { program := "ytbclljolofbfdaa", sum := "9e4e4e1a0c98714c66f3dc766302092289c443a6bb12708bbadfa3d9f645590c", func := "skirmish/skirmishlaw20.OrdersGives", spec := "ordersGives", inPlace := ["internal/abi.NoEscape"], unfollowed := true, recurses := true, apart := false, narrowed := true }
def OrdersGivesUptoSaid : Prop := ordersGivesUptoRow.holds Try.pinned (OpenSpec.upto ordersGivesSpec)

/-- 'skirmishlaw20.OrdersEnds', WHERE WHAT IT READS IS OF BULK AT MOST 1048576: true; the input reads as it did. -/
def ordersEndsUptoRow : OpenClaim := { program := "ytbclljolofbfdaa", sum := "9e4e4e1a0c98714c66f3dc766302092289c443a6bb12708bbadfa3d9f645590c", func := "skirmish/skirmishlaw20.OrdersEnds", spec := "ordersEnds", inPlace := ["internal/abi.NoEscape"], unfollowed := true, recurses := true, apart := false, narrowed := true }
def OrdersEndsUptoSaid : Prop := ordersEndsUptoRow.holds Try.pinned (OpenSpec.upto ordersEndsSpec)

/-- 'skirmishlaw20.OrdersEncodes', WHERE WHAT IT READS IS OF BULK AT MOST 1048576: true; the input reads as it did. -/
def ordersEncodesUptoRow : OpenClaim := { program := "ytbclljolofbfdaa", sum := "9e4e4e1a0c98714c66f3dc766302092289c443a6bb12708bbadfa3d9f645590c", func := "skirmish/skirmishlaw20.OrdersEncodes", spec := "ordersEncodes", inPlace := ["internal/abi.NoEscape"], unfollowed := true, recurses := true, apart := false, narrowed := true }
def OrdersEncodesUptoSaid : Prop := ordersEncodesUptoRow.holds Try.pinned (OpenSpec.upto ordersEncodesSpec)

/-- 'skirmishlaw20.OrdersDecodes', WHERE WHAT IT READS IS OF BULK AT MOST 1048576: true; the input reads as it did. -/
def ordersDecodesUptoRow : OpenClaim := { program := "ytbclljolofbfdaa", sum := "9e4e4e1a0c98714c66f3dc766302092289c443a6bb12708bbadfa3d9f645590c", func := "skirmish/skirmishlaw20.OrdersDecodes", spec := "ordersDecodes", inPlace := ["internal/abi.NoEscape"], unfollowed := true, recurses := true, apart := false, narrowed := true }
def OrdersDecodesUptoSaid : Prop := ordersDecodesUptoRow.holds Try.pinned (OpenSpec.upto ordersDecodesSpec)

end Rows
end Go.Proofs.Ytbclljolofbfdaa
