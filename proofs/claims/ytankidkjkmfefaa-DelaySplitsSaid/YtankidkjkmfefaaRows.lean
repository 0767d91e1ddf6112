/-
  No cell of these rows narrows 'for every input' (looked for: loops, veiled, ifaces, maps, wideKeys, modest, calm, conditions, laid).
  DERIVED. THE GIVEN ROWS OF THIS SEAT. 4 by the template 'for every input the law returns true; each argument reads behind the call as it read before'; 0 by the template 'total and deterministic' (their statements: YtankidkjkmfefaaTotals.lean).
  GIVEN WITH THE SEED: the statements are not yours to turn. If you find one false, say at which input.
  Laid BY PROGRAM, IN A SANDBOX (cutbox-rows.mjs): the forced cells as the released guide's own fill.sh prints them over the translation 3829e5fbadee0674… (all of the seat's roots in one cut). By AI agents, Wed Nov 11 2026. No macro, syntax, notation, axiom, sorry.
-/
import Derived.Test.YtankidkjkmfefaaChecked
import GoSem.Claim
import GoSem.ClaimJoined
import GoSem.ClaimMapViews
import Derived.JoinedTies
import Derived.KernelRfl
namespace Go.Proofs.Ytankidkjkmfefaa
/- THE CELL 'sum', in the pinned program and in every row, IS THE sha256 OF THE DUMP (.gsa) THAT YtankidkjkmfefaaProg.lean LOADS. Nothing in Lean hashes anything: it is a label: what it is worth is what the hold of that sum in a sandbox is worth. -/
noncomputable def Try.pinned : Pinned := { name := "ytankidkjkmfefaa", sum := "3829e5fbadee0674b6780f115b5b7f9290e7ad23e9c6362be643e5cc990f1f3d", checked := Try.checked }
namespace Rows
def none {H : Type} : Left H := { results := [], args := [] }

/-- 'skirmishlaw50.DelayNext': WHATEVER THE INPUT: true; the input reads as it did. -/
def delayNextSpec : ChangeSpec := { name := "delayNext", fn := fun _ => fun
  | [d1, d2] => { results := [.lit (.bool true)], args := [d1, d2] }
  | _ => none }
def delayNextRow : OpenClaim := { program := "ytankidkjkmfefaa", sum := "3829e5fbadee0674b6780f115b5b7f9290e7ad23e9c6362be643e5cc990f1f3d", func := "skirmish/skirmishlaw50.DelayNext", spec := "delayNext", unfollowed := true, recurses := true, plainKeys := false, apart := false }
def DelayNextSaid : Prop := delayNextRow.holds Try.pinned (OpenSpec.ofChange delayNextSpec)

/-- ITS FALSE NEIGHBOUR: 'it returns false'. Refute it at one input. -/
def delayNextWrong : ChangeSpec := { name := "delayNext", fn := fun _ => fun
  | [d1, d2] => { results := [.lit (.bool false)], args := [d1, d2] }
  | _ => none }
def DelayNextWrongFalsely : Prop := delayNextRow.holds Try.pinned (OpenSpec.ofChange delayNextWrong)

/-- 'skirmishlaw50.DelayDue': WHATEVER THE INPUT: true; the input reads as it did. -/
def delayDueSpec : ChangeSpec := { name := "delayDue", fn := fun _ => fun
  | [d1, d2, d3] => { results := [.lit (.bool true)], args := [d1, d2, d3] }
  | _ => none }
def delayDueRow : OpenClaim := { program := "ytankidkjkmfefaa", sum := "3829e5fbadee0674b6780f115b5b7f9290e7ad23e9c6362be643e5cc990f1f3d", func := "skirmish/skirmishlaw50.DelayDue", spec := "delayDue", unfollowed := true, recurses := true, plainKeys := false, apart := false }
def DelayDueSaid : Prop := delayDueRow.holds Try.pinned (OpenSpec.ofChange delayDueSpec)

/-- ITS FALSE NEIGHBOUR: 'it returns false'. Refute it at one input. -/
def delayDueWrong : ChangeSpec := { name := "delayDue", fn := fun _ => fun
  | [d1, d2, d3] => { results := [.lit (.bool false)], args := [d1, d2, d3] }
  | _ => none }
def DelayDueWrongFalsely : Prop := delayDueRow.holds Try.pinned (OpenSpec.ofChange delayDueWrong)

/-- 'skirmishlaw50.DelaySplits': WHATEVER THE INPUT: true; the input reads as it did. -/
def delaySplitsSpec : ChangeSpec := { name := "delaySplits", fn := fun _ => fun
  | [d] => { results := [.lit (.bool true)], args := [d] }
  | _ => none }
def delaySplitsRow : OpenClaim := { program := "ytankidkjkmfefaa", sum := "3829e5fbadee0674b6780f115b5b7f9290e7ad23e9c6362be643e5cc990f1f3d", func := "skirmish/skirmishlaw50.DelaySplits", spec := "delaySplits", unfollowed := true, recurses := true, plainKeys := false, apart := false }
def DelaySplitsSaid : Prop := delaySplitsRow.holds Try.pinned (OpenSpec.ofChange delaySplitsSpec)

/-- ITS FALSE NEIGHBOUR: 'it returns false'. Refute it at one input. -/
def delaySplitsWrong : ChangeSpec := { name := "delaySplits", fn := fun _ => fun
  | [d] => { results := [.lit (.bool false)], args := [d] }
  | _ => none }
def DelaySplitsWrongFalsely : Prop := delaySplitsRow.holds Try.pinned (OpenSpec.ofChange delaySplitsWrong)

/-- 'skirmishlaw50.DelayBounded': WHATEVER THE INPUT: true; the input reads as it did. -/
def delayBoundedSpec : ChangeSpec := { name := "delayBounded", fn := fun _ => fun
  | [d1, d2, d3, d4] => { results := [.lit (.bool true)], args := [d1, d2, d3, d4] }
  | _ => none }
def delayBoundedRow : OpenClaim := { program := "ytankidkjkmfefaa", sum := "3829e5fbadee0674b6780f115b5b7f9290e7ad23e9c6362be643e5cc990f1f3d", func := "skirmish/skirmishlaw50.DelayBounded", spec := "delayBounded", unfollowed := true, recurses := true, plainKeys := false, apart := false }
def DelayBoundedSaid : Prop := delayBoundedRow.holds Try.pinned (OpenSpec.ofChange delayBoundedSpec)

/-- ITS FALSE NEIGHBOUR: 'it returns false'. Refute it at one input. -/
def delayBoundedWrong : ChangeSpec := { name := "delayBounded", fn := fun _ => fun
  | [d1, d2, d3, d4] => { results := [.lit (.bool false)], args := [d1, d2, d3, d4] }
  | _ => none }
def DelayBoundedWrongFalsely : Prop := delayBoundedRow.holds Try.pinned (OpenSpec.ofChange delayBoundedWrong)

/- THE SECOND FORM. 'bulk': how many values and letters a reading holds, each counted each time it is reached (what is shared counts as often as it is met; a slice's spare places count too). A statement '..UptoSaid' is the law's where the arguments, and the package variables that the reading takes, are together of bulk at most 1048576: NARROWER than '..Said'. Prove '..Said' where nothing that the law and all that it calls make is longer than what came in: it says more and counts as full. Else prove '..UptoSaid'. A law counts once. -/
mutual
def uptoBulk {H : Type} : DataW H → Nat
  | .lit (.string bytes) => bytes.length + 1
  | .lit _ => 1
  | .nil => 1
  | .ptr d => uptoBulk d + 1
  | .slice elems spare => uptoBulkAll elems + uptoBulkAll spare + 1
  | .agg parts => uptoBulkAll parts + 1
  | .iface _ d => uptoBulk d + 1
  | .map entries => uptoBulkEntries entries + 1
  | .held _ => 1
def uptoBulkAll {H : Type} : List (DataW H) → Nat
  | [] => 0
  | d :: r => uptoBulk d + uptoBulkAll r
def uptoBulkEntries {H : Type} : List (Lit × DataW H) → Nat
  | [] => 0
  | x :: r => uptoBulkEntry x + uptoBulkEntries r
def uptoBulkEntry {H : Type} : Lit × DataW H → Nat
  | (.string bytes, d) => bytes.length + uptoBulk d + 1
  | (_, d) => uptoBulk d + 1
 end
def uptoSmall : (H : Type) → List (DataW H) → Bool := fun _ ds => decide (uptoBulkAll ds ≤ 1048576)
def OpenSpec.upto (s : _root_.Go.ChangeSpec) : _root_.Go.OpenSpec := { _root_.Go.OpenSpec.ofChange s with cond := some uptoSmall }

/-- 'skirmishlaw50.DelayNext', WHERE WHAT IT READS IS OF BULK AT MOST 1048576: true; the input reads as it did. -/
def delayNextUptoRow : OpenClaim := { program := "ytankidkjkmfefaa", sum := "3829e5fbadee0674b6780f115b5b7f9290e7ad23e9c6362be643e5cc990f1f3d", func := "skirmish/skirmishlaw50.DelayNext", spec := "delayNext", unfollowed := true, recurses := true, plainKeys := false, apart := false, narrowed := true }
def DelayNextUptoSaid : Prop := delayNextUptoRow.holds Try.pinned (OpenSpec.upto delayNextSpec)

/-- 'skirmishlaw50.DelayDue', WHERE WHAT IT READS IS OF BULK AT MOST 1048576: true; the input reads as it did. -/
def delayDueUptoRow : OpenClaim := { program := "ytankidkjkmfefaa", sum := "3829e5fbadee0674b6780f115b5b7f9290e7ad23e9c6362be643e5cc990f1f3d", func := "skirmish/skirmishlaw50.DelayDue", spec := "delayDue", unfollowed := true, recurses := true, plainKeys := false, apart := false, narrowed := true }
def DelayDueUptoSaid : Prop := delayDueUptoRow.holds Try.pinned (OpenSpec.upto delayDueSpec)

/-- 'skirmishlaw50.DelaySplits', WHERE WHAT IT READS IS OF BULK AT MOST 1048576: true; the input reads as it did. -/
def delaySplitsUptoRow : OpenClaim := { program := "ytankidkjkmfefaa", sum := "3829e5fbadee0674b6780f115b5b7f9290e7ad23e9c6362be643e5cc990f1f3d", func := "skirmish/skirmishlaw50.DelaySplits", spec := "delaySplits", unfollowed := true, recurses := true, plainKeys := false, apart := false, narrowed := true }
def DelaySplitsUptoSaid : Prop := delaySplitsUptoRow.holds Try.pinned (OpenSpec.upto delaySplitsSpec)

/-- 'skirmishlaw50.DelayBounded', WHERE WHAT IT READS IS OF BULK AT MOST 1048576: true; the input reads as it did. -/
def delayBoundedUptoRow : OpenClaim := { program := "ytankidkjkmfefaa", sum := "3829e5fbadee0674b6780f115b5b7f9290e7ad23e9c6362be643e5cc990f1f3d", func := "skirmish/skirmishlaw50.DelayBounded", spec := "delayBounded", unfollowed := true, recurses := true, plainKeys := false, apart := false, narrowed := true }
def DelayBoundedUptoSaid : Prop := delayBoundedUptoRow.holds Try.pinned (OpenSpec.upto delayBoundedSpec)

end Rows
end Go.Proofs.Ytankidkjkmfefaa
