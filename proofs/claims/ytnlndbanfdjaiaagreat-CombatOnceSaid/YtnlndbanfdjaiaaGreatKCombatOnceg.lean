/- One reckoning by the kernel: the fast machine finds the law's call true, of fighters of one class. Conditions: none. -/
import Derived.Test.YtnlndbanfdjaiaaGreatEvB
import Derived.Test.YtnlndbanfdjaiaaGreatProg
import Derived.KernelRfl
namespace Go.Proofs.YtnlndbanfdjaiaaGreat
set_option maxRecDepth 1000000
theorem combatOnceRuns6 : ((Go.Ev.callF Tryz.prog (Go.Ev.oneKnown 21) 1000).call 4 [Go.Ev.vAgg (Go.Ev.rowV [Go.Ev.byteR 7 0 6 0, Go.Ev.byteV 255 1, Go.Ev.bitsV 1 16 24 255 2, Go.Ev.byteV 255 3]) 0 4, Go.Ev.vAgg (Go.Ev.rowV [Go.Ev.byteV 255 4, Go.Ev.byteV 255 5, Go.Ev.bitsV 1 0 1 255 6, Go.Ev.byteV 255 7]) 0 4] Go.Ev.fh0 fun v _ => Nat.beq v.t 2) = true := by kernel_rfl
end Go.Proofs.YtnlndbanfdjaiaaGreat
