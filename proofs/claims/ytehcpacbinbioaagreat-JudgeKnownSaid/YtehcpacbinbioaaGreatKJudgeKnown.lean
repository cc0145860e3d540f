/- One reckoning by the kernel: the fast machine finds the law's call true. Conditions: none. -/
import Derived.Test.YtehcpacbinbioaaGreatEvB
import Derived.Test.YtehcpacbinbioaaGreatProg
import Derived.KernelRfl
namespace Go.Proofs.YtehcpacbinbioaaGreat
set_option maxRecDepth 1000000
theorem judgeKnownRuns : Go.Ev.fastTrue Tryz.prog 1000 4 = true := by kernel_rfl
end Go.Proofs.YtehcpacbinbioaaGreat
