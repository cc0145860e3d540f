/- One reckoning by the kernel: the fast machine finds the call of 'works' true. Conditions: none. -/
import Derived.Test.YtchbdmldjkkmiaaGreatEvB
import Derived.Test.YtchbdmldjkkmiaaGreatProg
import Derived.KernelRfl
namespace Go.Proofs.YtchbdmldjkkmiaaGreat
set_option maxRecDepth 1000000
theorem turnKnownWorks : Go.Ev.fastTrue Tryz.prog Go.Ev.noneKnown 1000 67 = true := by kernel_rfl
end Go.Proofs.YtchbdmldjkkmiaaGreat
