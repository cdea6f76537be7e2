/- The program's own facts that the walks want. -/
import Derived.Test.YtkekkalgebgokaaProg
import Derived.Test.YtkekkalgebgokaaG5
set_option linter.unusedSimpArgs false
set_option linter.unusedVariables false
namespace Go.Proofs.Ytkekkalgebgokaa
theorem mixedK : Try.prog.follows .mixedOrders = true := by kernel_rfl
end Go.Proofs.Ytkekkalgebgokaa
