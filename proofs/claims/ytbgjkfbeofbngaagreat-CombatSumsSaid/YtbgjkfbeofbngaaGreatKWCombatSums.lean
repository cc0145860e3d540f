/- One reckoning by the kernel: the fast machine finds the call of 'works' true. Conditions: none. -/
import Derived.Test.YtbgjkfbeofbngaaGreatEvB
import Derived.Test.YtbgjkfbeofbngaaGreatProg
import Derived.KernelRfl
namespace Go.Proofs.YtbgjkfbeofbngaaGreat
set_option maxRecDepth 1000000
theorem combatSumsWorks:Go.Ev.fastTrue Tryz.prog Go.Ev.noneKnown 1000 20=true:=by kernel_rfl
end Go.Proofs.YtbgjkfbeofbngaaGreat
