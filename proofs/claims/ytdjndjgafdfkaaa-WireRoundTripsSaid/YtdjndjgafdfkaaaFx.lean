/- Functions that the laws of this seat reach: for each a plain function, and a proof that the Go code comes to its answers. Out of the kit's print program; mended by hand where it fell. -/
import Derived.Test.YtdjndjgafdfkaaaFx0
import Derived.Test.YtdjndjgafdfkaaaFx1
import Derived.Test.YtdjndjgafdfkaaaFx2
import Derived.Test.YtdjndjgafdfkaaaFx3
import Derived.Test.YtdjndjgafdfkaaaFx4
import Derived.Test.YtdjndjgafdfkaaaFx5
import Derived.Test.YtdjndjgafdfkaaaFx6
import Derived.Test.YtdjndjgafdfkaaaFx7
namespace Go.Proofs.Ytdjndjgafdfkaaa.F
open Go.RowKit Go.Proofs.YtdjndjgafdfkaaaW.PrintWords Go.Proofs.YtdjndjgafdfkaaaW.PrintLast Go.Proofs.YtdjndjgafdfkaaaW.PrintMore
attribute [local go_sem] max2_int min2_int max_two min_two max_three min_three max_four min_four   -- for this text's walks alone
set_option linter.unusedVariables false
set_option linter.unusedSimpArgs false

end Go.Proofs.Ytdjndjgafdfkaaa.F
