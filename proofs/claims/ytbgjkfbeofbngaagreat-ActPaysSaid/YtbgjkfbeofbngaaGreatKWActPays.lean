/- One reckoning by the kernel: the fast machine finds the call of 'works' true. Conditions: none. -/
import Derived.Test.YtbgjkfbeofbngaaGreatEvB
import Derived.Test.YtbgjkfbeofbngaaGreatProg
import Derived.KernelRfl
namespace Go.Proofs.YtbgjkfbeofbngaaGreat
open Go.Ev
set_option maxRecDepth 1000000
theorem actPaysWorks : fastTrue Tryz.prog noneKnown 1000 41 = true := by kernel_rfl
end Go.Proofs.YtbgjkfbeofbngaaGreat
