/-
  No cell of these rows narrows 'for every input' (looked for: loops, veiled, ifaces, maps, wideKeys, modest, calm, conditions, laid).
  DERIVED. THE GIVEN ROWS OF THIS SEAT. 4 by the template 'for every input the law returns true; each argument reads behind the call as it read before'; 0 by the template 'total and deterministic' (their statements: YtolcofjdjbnimaaTotals.lean).
  GIVEN WITH THE SEED: the statements are not yours to turn. If you find one false, say at which input.
  Laid BY PROGRAM, IN A SANDBOX (cutbox-rows.mjs): the forced cells as the released guide's own fill.sh prints them over the translation 29a8164b2a4ec189… (all of the seat's roots in one cut). By AI agents, Wed Nov 11 2026. No macro, syntax, notation, axiom, sorry.
-/
import Derived.Test.YtolcofjdjbnimaaChecked
import GoSem.Claim
import GoSem.ClaimJoined
import GoSem.ClaimMapViews
import Derived.JoinedTies
import Derived.KernelRfl
namespace Go.Proofs.Ytolcofjdjbnimaa
/- THE CELL 'sum', in the pinned program and in every row, IS THE sha256 OF THE DUMP (.gsa) THAT YtolcofjdjbnimaaProg.lean LOADS. Nothing in Lean hashes anything: it is a label: what it is worth is what the hold of that sum in a sandbox is worth. -/
noncomputable def Try.pinned : Pinned := { name := "ytolcofjdjbnimaa", sum := "29a8164b2a4ec1897e38212037079e632ded01c745d52b14290d46ac2e518c33", checked := Try.checked }
namespace Rows
def none {H : Type} : Left H := { results := [], args := [] }

/-- 'skirmishlaw33.VictoryLooks': WHATEVER THE INPUT: true; the input reads as it did. -/
def victoryLooksSpec : ChangeSpec := { name := "victoryLooks", fn := fun _ => fun
  | [d1, d2] => { results := [.lit (.bool true)], args := [d1, d2] }
  | _ => none }
def victoryLooksRow : OpenClaim := { program := "ytolcofjdjbnimaa", sum := "29a8164b2a4ec1897e38212037079e632ded01c745d52b14290d46ac2e518c33", func := "skirmish/skirmishlaw33.VictoryLooks", spec := "victoryLooks", unfollowed := true, recurses := true, apart := false }
def VictoryLooksSaid : Prop := victoryLooksRow.holds Try.pinned (OpenSpec.ofChange victoryLooksSpec)

/-- ITS FALSE NEIGHBOUR: 'it returns false'. Refute it at one input. -/
def victoryLooksWrong : ChangeSpec := { name := "victoryLooks", fn := fun _ => fun
  | [d1, d2] => { results := [.lit (.bool false)], args := [d1, d2] }
  | _ => none }
def VictoryLooksWrongFalsely : Prop := victoryLooksRow.holds Try.pinned (OpenSpec.ofChange victoryLooksWrong)

/-- 'skirmishlaw33.VictoryPhase': WHATEVER THE INPUT: true; the input reads as it did. -/
def victoryPhaseSpec : ChangeSpec := { name := "victoryPhase", fn := fun _ => fun
  | [d] => { results := [.lit (.bool true)], args := [d] }
  | _ => none }
def victoryPhaseRow : OpenClaim := { program := "ytolcofjdjbnimaa", sum := "29a8164b2a4ec1897e38212037079e632ded01c745d52b14290d46ac2e518c33", func := "skirmish/skirmishlaw33.VictoryPhase", spec := "victoryPhase", unfollowed := true, recurses := true, apart := false }
def VictoryPhaseSaid : Prop := victoryPhaseRow.holds Try.pinned (OpenSpec.ofChange victoryPhaseSpec)

/-- ITS FALSE NEIGHBOUR: 'it returns false'. Refute it at one input. -/
def victoryPhaseWrong : ChangeSpec := { name := "victoryPhase", fn := fun _ => fun
  | [d] => { results := [.lit (.bool false)], args := [d] }
  | _ => none }
def VictoryPhaseWrongFalsely : Prop := victoryPhaseRow.holds Try.pinned (OpenSpec.ofChange victoryPhaseWrong)

/-- 'skirmishlaw33.VictoryResigns': WHATEVER THE INPUT: true; the input reads as it did. -/
def victoryResignsSpec : ChangeSpec := { name := "victoryResigns", fn := fun _ => fun
  | [d1, d2] => { results := [.lit (.bool true)], args := [d1, d2] }
  | _ => none }
def victoryResignsRow : OpenClaim := { program := "ytolcofjdjbnimaa", sum := "29a8164b2a4ec1897e38212037079e632ded01c745d52b14290d46ac2e518c33", func := "skirmish/skirmishlaw33.VictoryResigns", spec := "victoryResigns", unfollowed := true, recurses := true, apart := false }
def VictoryResignsSaid : Prop := victoryResignsRow.holds Try.pinned (OpenSpec.ofChange victoryResignsSpec)

/-- ITS FALSE NEIGHBOUR: 'it returns false'. Refute it at one input. -/
def victoryResignsWrong : ChangeSpec := { name := "victoryResigns", fn := fun _ => fun
  | [d1, d2] => { results := [.lit (.bool false)], args := [d1, d2] }
  | _ => none }
def VictoryResignsWrongFalsely : Prop := victoryResignsRow.holds Try.pinned (OpenSpec.ofChange victoryResignsWrong)

/-- 'skirmishlaw33.VictoryTeams': WHATEVER THE INPUT: true; the input reads as it did. -/
def victoryTeamsSpec : ChangeSpec := { name := "victoryTeams", fn := fun _ => fun
  | [d] => { results := [.lit (.bool true)], args := [d] }
  | _ => none }
def victoryTeamsRow : OpenClaim := { program := "ytolcofjdjbnimaa", sum := "29a8164b2a4ec1897e38212037079e632ded01c745d52b14290d46ac2e518c33", func := "skirmish/skirmishlaw33.VictoryTeams", spec := "victoryTeams", unfollowed := true, recurses := true, apart := false }
def VictoryTeamsSaid : Prop := victoryTeamsRow.holds Try.pinned (OpenSpec.ofChange victoryTeamsSpec)

/-- ITS FALSE NEIGHBOUR: 'it returns false'. Refute it at one input. -/
def victoryTeamsWrong : ChangeSpec := { name := "victoryTeams", fn := fun _ => fun
  | [d] => { results := [.lit (.bool false)], args := [d] }
  | _ => none }
def VictoryTeamsWrongFalsely : Prop := victoryTeamsRow.holds Try.pinned (OpenSpec.ofChange victoryTeamsWrong)

/- THE SECOND FORM. 'bulk': how many values and letters a reading holds, each counted each time it is reached (what is shared counts as often as it is met; a slice's spare places count too). A statement '..UptoSaid' is the law's where the arguments, and the package variables that the reading takes, are together of bulk at most 1048576: NARROWER than '..Said'. Prove '..Said' where nothing that the law and all that it calls make is longer than what came in: it says more and counts as full. Else prove '..UptoSaid'. A law counts once. -/
mutual
def uptoBulk {H : Type} : DataW H → Nat
  | .lit (.string bytes) => bytes.length + 1
  | .lit _ => 1
  | .nil => 1
  | .ptr d => uptoBulk d + 1
  | .slice elems spare => uptoBulkAll elems + uptoBulkAll spare + 1
  | .agg parts => uptoBulkAll parts + 1
  | .iface _ d => uptoBulk d + 1
  | .map entries => uptoBulkEntries entries + 1
  | .held _ => 1
def uptoBulkAll {H : Type} : List (DataW H) → Nat
  | [] => 0
  | d :: r => uptoBulk d + uptoBulkAll r
def uptoBulkEntries {H : Type} : List (Lit × DataW H) → Nat
  | [] => 0
  | x :: r => uptoBulkEntry x + uptoBulkEntries r
def uptoBulkEntry {H : Type} : Lit × DataW H → Nat
  | (.string bytes, d) => bytes.length + uptoBulk d + 1
  | (_, d) => uptoBulk d + 1
 end
def uptoSmall : (H : Type) → List (DataW H) → Bool := fun _ ds => decide (uptoBulkAll ds ≤ 1048576)
def OpenSpec.upto (s : _root_.Go.ChangeSpec) : _root_.Go.OpenSpec := { _root_.Go.OpenSpec.ofChange s with cond := some uptoSmall }

/-- 'skirmishlaw33.VictoryLooks', WHERE WHAT IT READS IS OF BULK AT MOST 1048576: true; the input reads as it did. -/
def victoryLooksUptoRow : OpenClaim := { program := "ytolcofjdjbnimaa", sum := "29a8164b2a4ec1897e38212037079e632ded01c745d52b14290d46ac2e518c33", func := "skirmish/skirmishlaw33.VictoryLooks", spec := "victoryLooks", unfollowed := true, recurses := true, apart := false, narrowed := true }
def VictoryLooksUptoSaid : Prop := victoryLooksUptoRow.holds Try.pinned (OpenSpec.upto victoryLooksSpec)

/-- 'skirmishlaw33.VictoryPhase', WHERE WHAT IT READS IS OF BULK AT MOST 1048576: true; the input reads as it did. -/
def victoryPhaseUptoRow : OpenClaim := { program := "ytolcofjdjbnimaa", sum := "29a8164b2a4ec1897e38212037079e632ded01c745d52b14290d46ac2e518c33", func := "skirmish/skirmishlaw33.VictoryPhase", spec := "victoryPhase", unfollowed := true, recurses := true, apart := false, narrowed := true }
def VictoryPhaseUptoSaid : Prop := victoryPhaseUptoRow.holds Try.pinned (OpenSpec.upto victoryPhaseSpec)

/-- 'skirmishlaw33.VictoryResigns', WHERE WHAT IT READS IS OF BULK AT MOST 1048576: true; the input reads as it did. -/
def victoryResignsUptoRow : OpenClaim := { program := "ytolcofjdjbnimaa", sum := "29a8164b2a4ec1897e38212037079e632ded01c745d52b14290d46ac2e518c33", func := "skirmish/skirmishlaw33.VictoryResigns", spec := "victoryResigns", unfollowed := true, recurses := true, apart := false, narrowed := true }
def VictoryResignsUptoSaid : Prop := victoryResignsUptoRow.holds Try.pinned (OpenSpec.upto victoryResignsSpec)

/-- 'skirmishlaw33.VictoryTeams', WHERE WHAT IT READS IS OF BULK AT MOST 1048576: true; the input reads as it did. -/
def victoryTeamsUptoRow : OpenClaim := { program := "ytolcofjdjbnimaa", sum := "29a8164b2a4ec1897e38212037079e632ded01c745d52b14290d46ac2e518c33", func := "skirmish/skirmishlaw33.VictoryTeams", spec := "victoryTeams", unfollowed := true, recurses := true, apart := false, narrowed := true }
def VictoryTeamsUptoSaid : Prop := victoryTeamsUptoRow.holds Try.pinned (OpenSpec.upto victoryTeamsSpec)

end Rows
end Go.Proofs.Ytolcofjdjbnimaa
