/- The program's own facts that the walks want. -/
import Derived.Test.YtbblkgdejgoncaaDoorProg
import Derived.Test.YtbblkgdejgoncaaDoorG5
set_option linter.unusedSimpArgs false
set_option linter.unusedVariables false
namespace Go.Proofs.YtbblkgdejgoncaaDoor
theorem mixedK : Tryd.prog.follows .mixedOrders = true := by kernel_rfl
end Go.Proofs.YtbblkgdejgoncaaDoor
