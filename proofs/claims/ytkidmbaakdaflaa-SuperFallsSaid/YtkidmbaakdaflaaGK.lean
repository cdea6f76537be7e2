/- The program's own facts that the walks want. -/
import Derived.Test.YtkidmbaakdaflaaProg
import Derived.Test.YtkidmbaakdaflaaG5
set_option linter.unusedSimpArgs false
set_option linter.unusedVariables false
namespace Go.Proofs.Ytkidmbaakdaflaa
theorem mixedK : Try.prog.follows .mixedOrders = true := by kernel_rfl
end Go.Proofs.Ytkidmbaakdaflaa
