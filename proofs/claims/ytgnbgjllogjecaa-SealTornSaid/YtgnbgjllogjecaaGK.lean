/- The program's own facts that the walks want. -/
import Derived.Test.YtgnbgjllogjecaaProg
import Derived.Test.YtgnbgjllogjecaaG5
namespace Go.Proofs.Ytgnbgjllogjecaa
theorem mixedK : Try.prog.follows .mixedOrders = true := by kernel_rfl
end Go.Proofs.Ytgnbgjllogjecaa
