/- One reckoning by the kernel: the fast machine finds the law's call true, of options of one class. Conditions: none. -/
import Derived.Test.YtnlndbanfdjaiaaGreatEvB
import Derived.Test.YtnlndbanfdjaiaaGreatProg
import Derived.KernelRfl
namespace Go.Proofs.YtnlndbanfdjaiaaGreat
set_option maxRecDepth 1000000
theorem actRefusesRuns1 : ((Go.Ev.callF Tryz.prog (Go.Ev.oneKnown 27) 1000).call 5 [Go.Ev.vAgg (Go.Ev.rowV [(Go.Ev.mkInt .i64 5), (Go.Ev.symV 1 0 18446744073709551615 [.int .i64 0, .int .i64 1]), (Go.Ev.symV 2 0 18446744073709551615 [])]) 0 3] Go.Ev.fh0 fun v _ => Nat.beq v.t 2) = true := by kernel_rfl
end Go.Proofs.YtnlndbanfdjaiaaGreat
