/- One reckoning by the kernel: the fast machine finds the law's call true, 'works' being known. Conditions: none. -/
import Derived.Test.YtchbdmldjkkmiaaGreatEvB
import Derived.Test.YtchbdmldjkkmiaaGreatProg
import Derived.KernelRfl
namespace Go.Proofs.YtchbdmldjkkmiaaGreat
set_option maxRecDepth 1000000
theorem turnKnownRuns : Go.Ev.fastTrue Tryz.prog (Go.Ev.oneKnown 67) 1000 8 = true := by kernel_rfl
end Go.Proofs.YtchbdmldjkkmiaaGreat
