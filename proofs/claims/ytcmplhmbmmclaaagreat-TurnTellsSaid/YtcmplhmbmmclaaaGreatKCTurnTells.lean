/- Reckonings by the kernel: what event.Check says of the law's events, with numbers that are not known. Conditions: none. -/
import Derived.Test.YtcmplhmbmmclaaaGreatEvP
import Derived.Test.YtcmplhmbmmclaaaGreatProg
import Derived.KernelRfl
set_option linter.unusedVariables false
namespace Go.Proofs.YtcmplhmbmmclaaaGreat.turnTells
set_option maxRecDepth 1000000
noncomputable def evN : Go.Ev.V := Go.Ev.vAgg (Go.Ev.rowV [Go.Ev.mkV (Go.Ev.iv 1), Go.Ev.symV 0 9223372036854775808 9223372036854775810 [], Go.Ev.symV 1 9223372036854775808 9223372036854775813 [], Go.Ev.symV 2 9223372036854775809 9223372036854775810 [], Go.Ev.mkV (Go.Ev.iv 0), Go.Ev.mkV Go.Ev.nilS, Go.Ev.mkV (Go.Ev.iv 0), Go.Ev.mkV (Go.Ev.iv 0), Go.Ev.mkV (Go.Ev.iv 0), Go.Ev.mkV (Go.Ev.iv 0), Go.Ev.mkV (Go.Ev.iv 0), Go.Ev.mkV (Go.Ev.iv 0), Go.Ev.mkV Go.Ev.nilS]) 0 13
theorem runN : ((Go.Ev.callF Tryz.prog Go.Ev.noneKnown 1000).call 201 [evN] Go.Ev.fh0 fun v _ => Go.Ev.isA v (Go.Ev.iv 0)) = true := by kernel_rfl
noncomputable def evT : Go.Ev.V := Go.Ev.vAgg (Go.Ev.rowV [Go.Ev.mkV (Go.Ev.iv 20), Go.Ev.symV 0 9223372036854775808 9223372036854775810 [], Go.Ev.mkV (Go.Ev.iv 0), Go.Ev.mkV (Go.Ev.iv 0), Go.Ev.mkV (Go.Ev.iv 0), Go.Ev.mkV Go.Ev.nilS, Go.Ev.mkV (Go.Ev.iv 0), Go.Ev.mkV (Go.Ev.iv 0), Go.Ev.mkV (Go.Ev.iv 0), Go.Ev.mkV (Go.Ev.iv 0), Go.Ev.mkV (Go.Ev.iv 0), Go.Ev.mkV (Go.Ev.iv 0), Go.Ev.mkV Go.Ev.nilS]) 0 13
theorem runT : ((Go.Ev.callF Tryz.prog Go.Ev.noneKnown 1000).call 201 [evT] Go.Ev.fh0 fun v _ => Go.Ev.isA v (Go.Ev.iv 0)) = true := by kernel_rfl
noncomputable def evP : Go.Ev.V := Go.Ev.vAgg (Go.Ev.rowV [Go.Ev.mkV (Go.Ev.iv 19), Go.Ev.symV 0 9223372036854775808 9223372036854775817 [], Go.Ev.mkV (Go.Ev.iv 0), Go.Ev.mkV (Go.Ev.iv 0), Go.Ev.mkV (Go.Ev.iv 0), Go.Ev.mkV Go.Ev.nilS, Go.Ev.mkV (Go.Ev.iv 0), Go.Ev.mkV (Go.Ev.iv 0), Go.Ev.mkV (Go.Ev.iv 0), Go.Ev.mkV (Go.Ev.iv 0), Go.Ev.mkV (Go.Ev.iv 0), Go.Ev.mkV (Go.Ev.iv 0), Go.Ev.mkV Go.Ev.nilS]) 0 13
theorem runP : ((Go.Ev.callF Tryz.prog Go.Ev.noneKnown 1000).call 201 [evP] Go.Ev.fh0 fun v _ => Go.Ev.isA v (Go.Ev.iv 0)) = true := by kernel_rfl
noncomputable def evL : Go.Ev.V := Go.Ev.vAgg (Go.Ev.rowV [Go.Ev.mkV (Go.Ev.iv 9), Go.Ev.symV 0 9223372036854775808 9223372036854775810 [], Go.Ev.mkV (Go.Ev.iv 0), Go.Ev.mkV (Go.Ev.iv 1), Go.Ev.mkV (Go.Ev.iv 0), Go.Ev.mkV Go.Ev.nilS, Go.Ev.mkV (Go.Ev.iv 0), Go.Ev.mkV (Go.Ev.iv 0), Go.Ev.mkV (Go.Ev.iv 0), Go.Ev.mkV (Go.Ev.iv 0), Go.Ev.mkV (Go.Ev.iv 0), Go.Ev.mkV (Go.Ev.iv 0), Go.Ev.mkV Go.Ev.nilS]) 0 13
theorem runL : ((Go.Ev.callF Tryz.prog Go.Ev.noneKnown 1000).call 201 [evL] Go.Ev.fh0 fun v _ => Go.Ev.isA v (Go.Ev.iv 0)) = true := by kernel_rfl
noncomputable def evU : Go.Ev.V := Go.Ev.vAgg (Go.Ev.rowV [Go.Ev.mkV (Go.Ev.iv 15), Go.Ev.mkV (Go.Ev.iv 0), Go.Ev.mkV (Go.Ev.iv 0), Go.Ev.mkV (Go.Ev.iv 0), Go.Ev.mkV (Go.Ev.iv 0), Go.Ev.mkV Go.Ev.nilS, Go.Ev.mkV (Go.Ev.iv 0), Go.Ev.mkV (Go.Ev.iv 2), Go.Ev.mkV (Go.Ev.iv 0), Go.Ev.mkV (Go.Ev.iv 0), Go.Ev.mkV (Go.Ev.iv 0), Go.Ev.mkV (Go.Ev.iv 0), Go.Ev.mkV Go.Ev.nilS]) 0 13
theorem runU : ((Go.Ev.callF Tryz.prog Go.Ev.noneKnown 1000).call 201 [evU] Go.Ev.fh0 fun v _ => Go.Ev.isA v (Go.Ev.iv 0)) = true := by kernel_rfl
end Go.Proofs.YtcmplhmbmmclaaaGreat.turnTells
