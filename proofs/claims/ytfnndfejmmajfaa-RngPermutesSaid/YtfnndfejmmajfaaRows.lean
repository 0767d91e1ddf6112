/-
  No cell of these rows narrows 'for every input' (looked for: loops, veiled, ifaces, maps, wideKeys, modest, calm, conditions, laid).
  DERIVED. THE GIVEN ROWS OF THIS SEAT. 6 by the template 'for every input the law returns true; each argument reads behind the call as it read before'; 0 by the template 'total and deterministic' (their statements: YtfnndfejmmajfaaTotals.lean).
  GIVEN WITH THE SEED: the statements are not yours to turn. If you find one false, say at which input.
  Laid BY PROGRAM, IN A SANDBOX (cutbox-rows.mjs): the forced cells as the released guide's own fill.sh prints them over the translation 075451f4f914a66c… (all of the seat's roots in one cut). By AI agents, Wed Nov 11 2026. No macro, syntax, notation, axiom, sorry.
-/
import Derived.Test.YtfnndfejmmajfaaChecked
import GoSem.Claim
import GoSem.ClaimJoined
import GoSem.ClaimMapViews
import Derived.JoinedTies
import Derived.KernelRfl
namespace Go.Proofs.Ytfnndfejmmajfaa
/- THE CELL 'sum', in the pinned program and in every row, IS THE sha256 OF THE DUMP (.gsa) THAT YtfnndfejmmajfaaProg.lean LOADS. Nothing in Lean hashes anything: it is a label: what it is worth is what the hold of that sum in a sandbox is worth. -/
noncomputable def Try.pinned : Pinned := { name := "ytfnndfejmmajfaa", sum := "075451f4f914a66c4aafbdec70d6044d1cc02ac6cb4dec26eabd7e83342dddcc", checked := Try.checked }
namespace Rows
def none {H : Type} : Left H := { results := [], args := [] }

/-- 'skirmishlaw03.RngNext': WHATEVER THE INPUT: true; the input reads as it did. -/
def rngNextSpec : ChangeSpec := { name := "rngNext", fn := fun _ => fun
  | [d] => { results := [.lit (.bool true)], args := [d] }
  | _ => none }
def rngNextRow : OpenClaim := { program := "ytfnndfejmmajfaa", sum := "075451f4f914a66c4aafbdec70d6044d1cc02ac6cb4dec26eabd7e83342dddcc", func := "skirmish/skirmishlaw03.RngNext", spec := "rngNext", apart := false }
def RngNextSaid : Prop := rngNextRow.holds Try.pinned (OpenSpec.ofChange rngNextSpec)

/-- ITS FALSE NEIGHBOUR: 'it returns false'. Refute it at one input. -/
def rngNextWrong : ChangeSpec := { name := "rngNext", fn := fun _ => fun
  | [d] => { results := [.lit (.bool false)], args := [d] }
  | _ => none }
def RngNextWrongFalsely : Prop := rngNextRow.holds Try.pinned (OpenSpec.ofChange rngNextWrong)

/-- 'skirmishlaw03.RngBelow': WHATEVER THE INPUT: true; the input reads as it did. -/
def rngBelowSpec : ChangeSpec := { name := "rngBelow", fn := fun _ => fun
  | [d1, d2] => { results := [.lit (.bool true)], args := [d1, d2] }
  | _ => none }
def rngBelowRow : OpenClaim := { program := "ytfnndfejmmajfaa", sum := "075451f4f914a66c4aafbdec70d6044d1cc02ac6cb4dec26eabd7e83342dddcc", func := "skirmish/skirmishlaw03.RngBelow", spec := "rngBelow", apart := false }
def RngBelowSaid : Prop := rngBelowRow.holds Try.pinned (OpenSpec.ofChange rngBelowSpec)

/-- ITS FALSE NEIGHBOUR: 'it returns false'. Refute it at one input. -/
def rngBelowWrong : ChangeSpec := { name := "rngBelow", fn := fun _ => fun
  | [d1, d2] => { results := [.lit (.bool false)], args := [d1, d2] }
  | _ => none }
def RngBelowWrongFalsely : Prop := rngBelowRow.holds Try.pinned (OpenSpec.ofChange rngBelowWrong)

/-- 'skirmishlaw03.RngBelowFair': WHATEVER THE INPUT: true; the input reads as it did. -/
def rngBelowFairSpec : ChangeSpec := { name := "rngBelowFair", fn := fun _ => fun
  | [d1, d2] => { results := [.lit (.bool true)], args := [d1, d2] }
  | _ => none }
def rngBelowFairRow : OpenClaim := { program := "ytfnndfejmmajfaa", sum := "075451f4f914a66c4aafbdec70d6044d1cc02ac6cb4dec26eabd7e83342dddcc", func := "skirmish/skirmishlaw03.RngBelowFair", spec := "rngBelowFair", apart := false }
def RngBelowFairSaid : Prop := rngBelowFairRow.holds Try.pinned (OpenSpec.ofChange rngBelowFairSpec)

/-- ITS FALSE NEIGHBOUR: 'it returns false'. Refute it at one input. -/
def rngBelowFairWrong : ChangeSpec := { name := "rngBelowFair", fn := fun _ => fun
  | [d1, d2] => { results := [.lit (.bool false)], args := [d1, d2] }
  | _ => none }
def RngBelowFairWrongFalsely : Prop := rngBelowFairRow.holds Try.pinned (OpenSpec.ofChange rngBelowFairWrong)

/-- 'skirmishlaw03.RngShuffles': WHATEVER THE INPUT: true; the input reads as it did. -/
def rngShufflesSpec : ChangeSpec := { name := "rngShuffles", fn := fun _ => fun
  | [d1, d2] => { results := [.lit (.bool true)], args := [d1, d2] }
  | _ => none }
def rngShufflesRow : OpenClaim := { program := "ytfnndfejmmajfaa", sum := "075451f4f914a66c4aafbdec70d6044d1cc02ac6cb4dec26eabd7e83342dddcc", func := "skirmish/skirmishlaw03.RngShuffles", spec := "rngShuffles", apart := false }
def RngShufflesSaid : Prop := rngShufflesRow.holds Try.pinned (OpenSpec.ofChange rngShufflesSpec)

/-- ITS FALSE NEIGHBOUR: 'it returns false'. Refute it at one input. -/
def rngShufflesWrong : ChangeSpec := { name := "rngShuffles", fn := fun _ => fun
  | [d1, d2] => { results := [.lit (.bool false)], args := [d1, d2] }
  | _ => none }
def RngShufflesWrongFalsely : Prop := rngShufflesRow.holds Try.pinned (OpenSpec.ofChange rngShufflesWrong)

/-- 'skirmishlaw03.RngPermutes': WHATEVER THE INPUT: true; the input reads as it did. -/
def rngPermutesSpec : ChangeSpec := { name := "rngPermutes", fn := fun _ => fun
  | [d1, d2] => { results := [.lit (.bool true)], args := [d1, d2] }
  | _ => none }
def rngPermutesRow : OpenClaim := { program := "ytfnndfejmmajfaa", sum := "075451f4f914a66c4aafbdec70d6044d1cc02ac6cb4dec26eabd7e83342dddcc", func := "skirmish/skirmishlaw03.RngPermutes", spec := "rngPermutes", apart := false }
def RngPermutesSaid : Prop := rngPermutesRow.holds Try.pinned (OpenSpec.ofChange rngPermutesSpec)

/-- ITS FALSE NEIGHBOUR: 'it returns false'. Refute it at one input. -/
def rngPermutesWrong : ChangeSpec := { name := "rngPermutes", fn := fun _ => fun
  | [d1, d2] => { results := [.lit (.bool false)], args := [d1, d2] }
  | _ => none }
def RngPermutesWrongFalsely : Prop := rngPermutesRow.holds Try.pinned (OpenSpec.ofChange rngPermutesWrong)

/-- 'skirmishlaw03.RngSeeds': WHATEVER THE INPUT: true; the input reads as it did. -/
def rngSeedsSpec : ChangeSpec := { name := "rngSeeds", fn := fun _ => fun
  | [d1, d2] => { results := [.lit (.bool true)], args := [d1, d2] }
  | _ => none }
def rngSeedsRow : OpenClaim := { program := "ytfnndfejmmajfaa", sum := "075451f4f914a66c4aafbdec70d6044d1cc02ac6cb4dec26eabd7e83342dddcc", func := "skirmish/skirmishlaw03.RngSeeds", spec := "rngSeeds", apart := false }
def RngSeedsSaid : Prop := rngSeedsRow.holds Try.pinned (OpenSpec.ofChange rngSeedsSpec)

/-- ITS FALSE NEIGHBOUR: 'it returns false'. Refute it at one input. -/
def rngSeedsWrong : ChangeSpec := { name := "rngSeeds", fn := fun _ => fun
  | [d1, d2] => { results := [.lit (.bool false)], args := [d1, d2] }
  | _ => none }
def RngSeedsWrongFalsely : Prop := rngSeedsRow.holds Try.pinned (OpenSpec.ofChange rngSeedsWrong)

/- THE SECOND FORM. 'bulk': how many values and letters a reading holds, each counted each time it is reached (what is shared counts as often as it is met; a slice's spare places count too). A statement '..UptoSaid' is the law's where the arguments, and the package variables that the reading takes, are together of bulk at most 1048576: NARROWER than '..Said'. Prove '..Said' where nothing that the law and all that it calls make is longer than what came in: it says more and counts as full. Else prove '..UptoSaid'. A law counts once. -/
mutual
def uptoBulk {H : Type} : DataW H → Nat
  | .lit (.string bytes) => bytes.length + 1
  | .lit _ => 1
  | .nil => 1
  | .ptr d => uptoBulk d + 1
  | .slice elems spare => uptoBulkAll elems + uptoBulkAll spare + 1
  | .agg parts => uptoBulkAll parts + 1
  | .iface _ d => uptoBulk d + 1
  | .map entries => uptoBulkEntries entries + 1
  | .held _ => 1
def uptoBulkAll {H : Type} : List (DataW H) → Nat
  | [] => 0
  | d :: r => uptoBulk d + uptoBulkAll r
def uptoBulkEntries {H : Type} : List (Lit × DataW H) → Nat
  | [] => 0
  | x :: r => uptoBulkEntry x + uptoBulkEntries r
def uptoBulkEntry {H : Type} : Lit × DataW H → Nat
  | (.string bytes, d) => bytes.length + uptoBulk d + 1
  | (_, d) => uptoBulk d + 1
 end
def uptoSmall : (H : Type) → List (DataW H) → Bool := fun _ ds => decide (uptoBulkAll ds ≤ 1048576)
def OpenSpec.upto (s : _root_.Go.ChangeSpec) : _root_.Go.OpenSpec := { _root_.Go.OpenSpec.ofChange s with cond := some uptoSmall }

/-- 'skirmishlaw03.RngNext', WHERE WHAT IT READS IS OF BULK AT MOST 1048576: true; the input reads as it did. -/
def rngNextUptoRow : OpenClaim := { program := "ytfnndfejmmajfaa", sum := "075451f4f914a66c4aafbdec70d6044d1cc02ac6cb4dec26eabd7e83342dddcc", func := "skirmish/skirmishlaw03.RngNext", spec := "rngNext", apart := false, narrowed := true }
def RngNextUptoSaid : Prop := rngNextUptoRow.holds Try.pinned (OpenSpec.upto rngNextSpec)

/-- 'skirmishlaw03.RngBelow', WHERE WHAT IT READS IS OF BULK AT MOST 1048576: true; the input reads as it did. -/
def rngBelowUptoRow : OpenClaim := { program := "ytfnndfejmmajfaa", sum := "075451f4f914a66c4aafbdec70d6044d1cc02ac6cb4dec26eabd7e83342dddcc", func := "skirmish/skirmishlaw03.RngBelow", spec := "rngBelow", apart := false, narrowed := true }
def RngBelowUptoSaid : Prop := rngBelowUptoRow.holds Try.pinned (OpenSpec.upto rngBelowSpec)

/-- 'skirmishlaw03.RngBelowFair', WHERE WHAT IT READS IS OF BULK AT MOST 1048576: true; the input reads as it did. -/
def rngBelowFairUptoRow : OpenClaim := { program := "ytfnndfejmmajfaa", sum := "075451f4f914a66c4aafbdec70d6044d1cc02ac6cb4dec26eabd7e83342dddcc", func := "skirmish/skirmishlaw03.RngBelowFair", spec := "rngBelowFair", apart := false, narrowed := true }
def RngBelowFairUptoSaid : Prop := rngBelowFairUptoRow.holds Try.pinned (OpenSpec.upto rngBelowFairSpec)

/-- 'skirmishlaw03.RngShuffles', WHERE WHAT IT READS IS OF BULK AT MOST 1048576: true; the input reads as it did. -/
def rngShufflesUptoRow : OpenClaim := { program := "ytfnndfejmmajfaa", sum := "075451f4f914a66c4aafbdec70d6044d1cc02ac6cb4dec26eabd7e83342dddcc", func := "skirmish/skirmishlaw03.RngShuffles", spec := "rngShuffles", apart := false, narrowed := true }
def RngShufflesUptoSaid : Prop := rngShufflesUptoRow.holds Try.pinned (OpenSpec.upto rngShufflesSpec)

/-- 'skirmishlaw03.RngPermutes', WHERE WHAT IT READS IS OF BULK AT MOST 1048576: true; the input reads as it did. -/
def rngPermutesUptoRow : OpenClaim := { program := "ytfnndfejmmajfaa", sum := "075451f4f914a66c4aafbdec70d6044d1cc02ac6cb4dec26eabd7e83342dddcc", func := "skirmish/skirmishlaw03.RngPermutes", spec := "rngPermutes", apart := false, narrowed := true }
def RngPermutesUptoSaid : Prop := rngPermutesUptoRow.holds Try.pinned (OpenSpec.upto rngPermutesSpec)

/-- 'skirmishlaw03.RngSeeds', WHERE WHAT IT READS IS OF BULK AT MOST 1048576: true; the input reads as it did. -/
def rngSeedsUptoRow : OpenClaim := { program := "ytfnndfejmmajfaa", sum := "075451f4f914a66c4aafbdec70d6044d1cc02ac6cb4dec26eabd7e83342dddcc", func := "skirmish/skirmishlaw03.RngSeeds", spec := "rngSeeds", apart := false, narrowed := true }
def RngSeedsUptoSaid : Prop := rngSeedsUptoRow.holds Try.pinned (OpenSpec.upto rngSeedsSpec)

end Rows
end Go.Proofs.Ytfnndfejmmajfaa
