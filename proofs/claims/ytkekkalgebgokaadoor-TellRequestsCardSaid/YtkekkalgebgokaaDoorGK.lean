/- The program's own facts that the walks want. -/
import Derived.Test.YtkekkalgebgokaaDoorProg
import Derived.Test.YtkekkalgebgokaaDoorG5
set_option linter.unusedSimpArgs false
set_option linter.unusedVariables false
namespace Go.Proofs.YtkekkalgebgokaaDoor
theorem mixedK : Tryd.prog.follows .mixedOrders = true := by kernel_rfl
end Go.Proofs.YtkekkalgebgokaaDoor
