/- Functions that the laws of this seat reach: for each a plain function, and a proof that the Go code comes to its answers. Out of the kit's print program; mended by hand where it fell. -/
import Derived.Test.YtfnndfejmmajfaaFx0
import Derived.Test.YtfnndfejmmajfaaFx1
import Derived.Test.YtfnndfejmmajfaaFx2
import Derived.Test.YtfnndfejmmajfaaFx3
import Derived.Test.YtfnndfejmmajfaaFx4
import Derived.Test.YtfnndfejmmajfaaFx5
namespace Go.Proofs.Ytfnndfejmmajfaa.F
open Go.RowKit Go.Proofs.YtfnndfejmmajfaaW.PrintWords Go.Proofs.YtfnndfejmmajfaaW.PrintLast Go.Proofs.YtfnndfejmmajfaaW.PrintMore
attribute [local go_sem] max2_int min2_int max_two min_two max_three min_three max_four min_four   -- for this text's walks alone
set_option linter.unusedVariables false
set_option linter.unusedSimpArgs false

end Go.Proofs.Ytfnndfejmmajfaa.F
