/- Reckonings by the kernel: the fast machine finds the law's call true, of lists of one length, and one place. Conditions: none. -/
import Derived.Test.YtnlndbanfdjaiaaGreatEvB
import Derived.Test.YtnlndbanfdjaiaaGreatProg
import Derived.KernelRfl
namespace Go.Proofs.YtnlndbanfdjaiaaGreat
set_option maxRecDepth 1000000
theorem targetItems6x2 : ((Go.Ev.callF Tryz.prog (Go.Ev.oneKnown 6) 1000).call 3 [Go.Ev.slcV 1 6 6 20 (Go.Ev.rowV [Go.Ev.byteV 255 0, Go.Ev.byteV 255 1, Go.Ev.byteV 255 2, Go.Ev.byteV 255 3, Go.Ev.byteV 255 4, Go.Ev.byteV 255 5]), Go.Ev.byteR 6 2 2 8] Go.Ev.fhP fun v h => Nat.beq v.t 2 && (Nat.beq (Go.Ev.hget 0 h).t 5 && Nat.beq (Go.Ev.hget 0 h).lp.nt 0)) = true := by kernel_rfl
theorem targetItems6x3 : ((Go.Ev.callF Tryz.prog (Go.Ev.oneKnown 6) 1000).call 3 [Go.Ev.slcV 1 6 6 20 (Go.Ev.rowV [Go.Ev.byteV 255 0, Go.Ev.byteV 255 1, Go.Ev.byteV 255 2, Go.Ev.byteV 255 3, Go.Ev.byteV 255 4, Go.Ev.byteV 255 5]), Go.Ev.byteR 6 3 3 8] Go.Ev.fhP fun v h => Nat.beq v.t 2 && (Nat.beq (Go.Ev.hget 0 h).t 5 && Nat.beq (Go.Ev.hget 0 h).lp.nt 0)) = true := by kernel_rfl
end Go.Proofs.YtnlndbanfdjaiaaGreat
