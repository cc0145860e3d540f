/- Reckonings by the kernel: the fast machine finds the law's call true, of lists of one length, and one place. Conditions: none. -/
import Derived.Test.YtnlndbanfdjaiaaGreatEvB
import Derived.Test.YtnlndbanfdjaiaaGreatProg
import Derived.KernelRfl
namespace Go.Proofs.YtnlndbanfdjaiaaGreat
set_option maxRecDepth 1000000
theorem targetItemsNil : ((Go.Ev.callF Tryz.prog (Go.Ev.oneKnown 6) 1000).call 3 [Go.Ev.mkV (.slice none 0 0 false 0), Go.Ev.byteV 255 8] Go.Ev.fh0 fun v _ => Nat.beq v.t 2) = true := by kernel_rfl
theorem targetItemsEmpty : ((Go.Ev.callF Tryz.prog (Go.Ev.oneKnown 6) 1000).call 3 [Go.Ev.mkV .empty, Go.Ev.byteV 255 8] Go.Ev.fh0 fun v _ => Nat.beq v.t 2) = true := by kernel_rfl
theorem targetItems1x0 : ((Go.Ev.callF Tryz.prog (Go.Ev.oneKnown 6) 1000).call 3 [Go.Ev.slcV 1 1 1 20 (Go.Ev.rowV [Go.Ev.byteV 255 0]), Go.Ev.byteR 1 0 0 8] Go.Ev.fhP fun v h => Nat.beq v.t 2 && (Nat.beq (Go.Ev.hget 0 h).t 5 && Nat.beq (Go.Ev.hget 0 h).lp.nt 0)) = true := by kernel_rfl
theorem targetItems2x0 : ((Go.Ev.callF Tryz.prog (Go.Ev.oneKnown 6) 1000).call 3 [Go.Ev.slcV 1 2 2 20 (Go.Ev.rowV [Go.Ev.byteV 255 0, Go.Ev.byteV 255 1]), Go.Ev.byteR 2 0 0 8] Go.Ev.fhP fun v h => Nat.beq v.t 2 && (Nat.beq (Go.Ev.hget 0 h).t 5 && Nat.beq (Go.Ev.hget 0 h).lp.nt 0)) = true := by kernel_rfl
theorem targetItems2x1 : ((Go.Ev.callF Tryz.prog (Go.Ev.oneKnown 6) 1000).call 3 [Go.Ev.slcV 1 2 2 20 (Go.Ev.rowV [Go.Ev.byteV 255 0, Go.Ev.byteV 255 1]), Go.Ev.byteR 2 1 1 8] Go.Ev.fhP fun v h => Nat.beq v.t 2 && (Nat.beq (Go.Ev.hget 0 h).t 5 && Nat.beq (Go.Ev.hget 0 h).lp.nt 0)) = true := by kernel_rfl
end Go.Proofs.YtnlndbanfdjaiaaGreat
