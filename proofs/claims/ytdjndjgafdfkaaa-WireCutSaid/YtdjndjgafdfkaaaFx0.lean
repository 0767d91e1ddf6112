/- Functions that the laws of this seat reach: for each a plain function, and a proof that the Go code comes to its answers. Out of the kit's print program; mended by hand where it fell. -/
import Derived.Test.YtdjndjgafdfkaaaProg
import Derived.Below
import Derived.Deep.Draws
import Derived.Deep.AppendLies
import Derived.Maps.AppendAt
import Derived.OwnWalk
import Derived.Laws.BytesArg
import Derived.Laws.MakeOwn
import Derived.Laws.OwnMore
import Derived.Deep.OwnRows
import Derived.Tactics
import Derived.Lib.ConvBytes
import Derived.Laws.Slices
import Derived.WalkKit
import Derived.KernelRfl
import Derived.RowKit3
import Derived.Deep.LoopGhost
import Derived.Deep.QuietTactic
import Derived.BigQuiet
import Derived.WideLaws
import Derived.Deep.DeepCutAuto
import Derived.Deep.CutBlock
import Derived.Deep.RegionHeld3
import Derived.Laws.Rows
import Derived.Lib.AppendStr
import Derived.ArgAppend
import Derived.Laws.IdiomCopy
import Derived.OrdersHeld
import Derived.Laws.BitsLemmas
import Derived.RowKit
import Derived.Test.YtdjndjgafdfkaaaWWords
import Derived.Test.YtdjndjgafdfkaaaWLast
import Derived.Test.YtdjndjgafdfkaaaWTab
import Derived.Test.YtdjndjgafdfkaaaWFour
import Derived.Test.YtdjndjgafdfkaaaWQPut
import Derived.Test.YtdjndjgafdfkaaaWApart
import Derived.Test.YtdjndjgafdfkaaaWArr
import Derived.Test.YtdjndjgafdfkaaaWZeros
import Derived.Test.YtdjndjgafdfkaaaWFoot
import Derived.Test.YtdjndjgafdfkaaaWKept
import Derived.Test.YtdjndjgafdfkaaaWShare
import Derived.Test.YtdjndjgafdfkaaaWN
import Derived.Test.YtdjndjgafdfkaaaWFootNe
import Derived.Test.YtdjndjgafdfkaaaWAt
import Derived.Test.YtdjndjgafdfkaaaWEqStruct
import Derived.Test.YtdjndjgafdfkaaaWRepsOne
import Derived.Test.YtdjndjgafdfkaaaWInv
import Derived.Test.YtdjndjgafdfkaaaWInvWords
import Derived.Test.YtdjndjgafdfkaaaWGuard
import Derived.Test.YtdjndjgafdfkaaaWNEv
import Derived.Test.YtdjndjgafdfkaaaWMore
namespace Go.Proofs.Ytdjndjgafdfkaaa.F
open Go.RowKit Go.Proofs.YtdjndjgafdfkaaaW.PrintWords Go.Proofs.YtdjndjgafdfkaaaW.PrintLast Go.Proofs.YtdjndjgafdfkaaaW.PrintMore
attribute [local go_sem] max2_int min2_int max_two min_two max_three min_three max_four min_four   -- for this text's walks alone
set_option linter.unusedVariables false
set_option linter.unusedSimpArgs false



def errW : Option Int → Value
  | none => .nilIface
  | some c => .iface 0 (.int .i64 c)
theorem errW_none : errW none = .nilIface := rfl
theorem errW_some (c : Int) : errW (some c) = .iface 0 (.int .i64 c) := rfl

theorem info5 : (Try.prog.info? 5).map (fun i => (i.zero, i.size, i.bytes)) = some (some (.int .u8 0), 1, 1) := by kernel_rfl


end Go.Proofs.Ytdjndjgafdfkaaa.F
