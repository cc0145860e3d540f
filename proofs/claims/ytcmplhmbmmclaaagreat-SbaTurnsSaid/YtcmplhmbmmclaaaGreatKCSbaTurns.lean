/- Reckonings by the kernel: what event.Check says of the law's events, with numbers that are not known. Conditions: none. -/
import Derived.Test.YtcmplhmbmmclaaaGreatEvM
import Derived.Test.YtcmplhmbmmclaaaGreatProg
import Derived.KernelRfl
set_option linter.unusedVariables false
namespace Go.Proofs.YtcmplhmbmmclaaaGreat.sbaTurns
set_option maxRecDepth 1000000
noncomputable def evT : Go.Ev.V := Go.Ev.vAgg (Go.Ev.rowV [Go.Ev.mkV (Go.Ev.iv 20), Go.Ev.symV 0 9223372036854775808 9223372036854775810 [], Go.Ev.mkV (Go.Ev.iv 0), Go.Ev.mkV (Go.Ev.iv 0), Go.Ev.mkV (Go.Ev.iv 0), Go.Ev.mkV Go.Ev.nilS, Go.Ev.mkV (Go.Ev.iv 0), Go.Ev.mkV (Go.Ev.iv 0), Go.Ev.mkV (Go.Ev.iv 0), Go.Ev.mkV (Go.Ev.iv 0), Go.Ev.mkV (Go.Ev.iv 0), Go.Ev.mkV (Go.Ev.iv 0), Go.Ev.mkV Go.Ev.nilS]) 0 13
theorem runT : ((Go.Ev.callF Tryz.prog Go.Ev.noneKnown 1000).call 201 [evT] Go.Ev.fh0 fun v _ => Go.Ev.isA v (Go.Ev.iv 0)) = true := by kernel_rfl
noncomputable def evW : Go.Ev.V := Go.Ev.vAgg (Go.Ev.rowV [Go.Ev.mkV (Go.Ev.iv 17), Go.Ev.mkV (Go.Ev.iv 0), Go.Ev.mkV (Go.Ev.iv 0), Go.Ev.mkV (Go.Ev.iv 0), Go.Ev.mkV (Go.Ev.iv 0), Go.Ev.mkV Go.Ev.nilS, Go.Ev.mkV (Go.Ev.iv 0), Go.Ev.mkV (Go.Ev.iv 3), Go.Ev.symV 0 9223372036854775808 9223372036854775810 [], Go.Ev.mkV (Go.Ev.iv 0), Go.Ev.symV 1 9223372036854775808 9223372036854775815 [], Go.Ev.mkV (Go.Ev.iv 0), Go.Ev.mkV Go.Ev.nilS]) 0 13
theorem runW : ((Go.Ev.callF Tryz.prog Go.Ev.noneKnown 1000).call 201 [evW] Go.Ev.fh0 fun v _ => Go.Ev.isA v (Go.Ev.iv 0)) = true := by kernel_rfl
noncomputable def evU : Go.Ev.V := Go.Ev.vAgg (Go.Ev.rowV [Go.Ev.mkV (Go.Ev.iv 18), Go.Ev.symV 0 9223372036854775809 9223372036855775808 [], Go.Ev.mkV (Go.Ev.iv 0), Go.Ev.mkV (Go.Ev.iv 0), Go.Ev.mkV (Go.Ev.iv 0), Go.Ev.mkV Go.Ev.nilS, Go.Ev.mkV (Go.Ev.iv 0), Go.Ev.mkV (Go.Ev.iv 0), Go.Ev.mkV (Go.Ev.iv 0), Go.Ev.mkV (Go.Ev.iv 0), Go.Ev.mkV (Go.Ev.iv 0), Go.Ev.mkV (Go.Ev.iv 0), Go.Ev.mkV Go.Ev.nilS]) 0 13
theorem runU : ((Go.Ev.callF Tryz.prog Go.Ev.noneKnown 1000).call 201 [evU] Go.Ev.fh0 fun v _ => Go.Ev.isA v (Go.Ev.iv 0)) = true := by kernel_rfl
noncomputable def evP2 : Go.Ev.V := Go.Ev.vAgg (Go.Ev.rowV [Go.Ev.mkV (Go.Ev.iv 15), Go.Ev.mkV (Go.Ev.iv 0), Go.Ev.mkV (Go.Ev.iv 0), Go.Ev.mkV (Go.Ev.iv 0), Go.Ev.mkV (Go.Ev.iv 0), Go.Ev.mkV Go.Ev.nilS, Go.Ev.mkV (Go.Ev.iv 0), Go.Ev.mkV (Go.Ev.iv 3), Go.Ev.symV 0 9223372036854775808 9223372036854775810 [], Go.Ev.mkV (Go.Ev.iv 0), Go.Ev.symV 1 9223372036854775808 9223372036854775815 [], Go.Ev.mkV (Go.Ev.iv 0), Go.Ev.mkV Go.Ev.nilS]) 0 13
theorem runP2 : ((Go.Ev.callF Tryz.prog Go.Ev.noneKnown 1000).call 201 [evP2] Go.Ev.fh0 fun v _ => Go.Ev.isA v (Go.Ev.iv 0)) = true := by kernel_rfl
end Go.Proofs.YtcmplhmbmmclaaaGreat.sbaTurns
