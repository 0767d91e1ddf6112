/- Functions that the laws of this seat reach: for each a plain function, and a proof that the Go code comes to its answers. Out of the kit's print program; mended by hand where it fell. -/
import Derived.Test.YtfnndfejmmajfaaProg
import Derived.Below
import Derived.Deep.Draws
import Derived.Deep.AppendLies
import Derived.Maps.AppendAt
import Derived.OwnWalk
import Derived.Laws.BytesArg
import Derived.Laws.MakeOwn
import Derived.Laws.OwnMore
import Derived.Deep.OwnRows
import Derived.Tactics
import Derived.Lib.ConvBytes
import Derived.Laws.Slices
import Derived.WalkKit
import Derived.KernelRfl
import Derived.RowKit3
import Derived.Deep.LoopGhost
import Derived.Deep.QuietTactic
import Derived.BigQuiet
import Derived.WideLaws
import Derived.Deep.DeepCutAuto
import Derived.Deep.CutBlock
import Derived.Deep.RegionHeld3
import Derived.Laws.Rows
import Derived.Lib.AppendStr
import Derived.ArgAppend
import Derived.Laws.IdiomCopy
import Derived.OrdersHeld
import Derived.Laws.BitsLemmas
import Derived.RowKit
import Derived.Test.YtfnndfejmmajfaaWWords
import Derived.Test.YtfnndfejmmajfaaWLast
import Derived.Test.YtfnndfejmmajfaaWTab
import Derived.Test.YtfnndfejmmajfaaWFour
import Derived.Test.YtfnndfejmmajfaaWQPut
import Derived.Test.YtfnndfejmmajfaaWApart
import Derived.Test.YtfnndfejmmajfaaWArr
import Derived.Test.YtfnndfejmmajfaaWZeros
import Derived.Test.YtfnndfejmmajfaaWFoot
import Derived.Test.YtfnndfejmmajfaaWKept
import Derived.Test.YtfnndfejmmajfaaWShare
import Derived.Test.YtfnndfejmmajfaaWN
import Derived.Test.YtfnndfejmmajfaaWFootNe
import Derived.Test.YtfnndfejmmajfaaWAt
import Derived.Test.YtfnndfejmmajfaaWEqStruct
import Derived.Test.YtfnndfejmmajfaaWRepsOne
import Derived.Test.YtfnndfejmmajfaaWInv
import Derived.Test.YtfnndfejmmajfaaWInvWords
import Derived.Test.YtfnndfejmmajfaaWGuard
import Derived.Test.YtfnndfejmmajfaaWNEv
import Derived.Test.YtfnndfejmmajfaaWMore
namespace Go.Proofs.Ytfnndfejmmajfaa.F
open Go.RowKit Go.Proofs.YtfnndfejmmajfaaW.PrintWords Go.Proofs.YtfnndfejmmajfaaW.PrintLast Go.Proofs.YtfnndfejmmajfaaW.PrintMore
attribute [local go_sem] max2_int min2_int max_two min_two max_three min_three max_four min_four   -- for this text's walks alone
set_option linter.unusedVariables false
set_option linter.unusedSimpArgs false



def errW : Option Int → Value
  | none => .nilIface
  | some c => .iface 0 (.int .i64 c)
theorem errW_none : errW none = .nilIface := rfl
theorem errW_some (c : Int) : errW (some c) = .iface 0 (.int .i64 c) := rfl

theorem info3 : (Try.prog.info? 3).map (fun i => (i.zero, i.size, i.bytes)) = some (some (.int .i64 0), 1, 8) := by kernel_rfl
theorem info4 : (Try.prog.info? 4).map (fun i => (i.zero, i.size, i.bytes)) = some (some (.bool false), 1, 1) := by kernel_rfl


end Go.Proofs.Ytfnndfejmmajfaa.F
