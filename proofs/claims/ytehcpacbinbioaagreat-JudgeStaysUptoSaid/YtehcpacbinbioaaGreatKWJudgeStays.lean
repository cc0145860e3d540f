/- One reckoning by the kernel: the machine finds the call of 'works' true. Conditions: none. -/
import Derived.Test.YtehcpacbinbioaaGreatEvA
import Derived.Test.YtehcpacbinbioaaGreatProg
import Derived.KernelRfl
namespace Go.Proofs.YtehcpacbinbioaaGreat.judgeStays
set_option maxRecDepth 1000000
theorem works : Go.Ev.saysTrue Tryz.prog (fun _ _ _ => none) 1000 6 = true := by kernel_rfl
end Go.Proofs.YtehcpacbinbioaaGreat.judgeStays
