/- Reckonings by the kernel: what event.Check says of three events, and what works says. Conditions: none. -/
import Derived.Test.YtcmplhmbmmclaaaGreatEvL
import Derived.Test.YtcmplhmbmmclaaaGreatProg
import Derived.KernelRfl
set_option linter.unusedVariables false
namespace Go.Proofs.YtcmplhmbmmclaaaGreat.boardLimit
set_option maxRecDepth 1000000
theorem runW : ((Go.Ev.callF Tryz.prog Go.Ev.noneKnown 1000).call 16 [] Go.Ev.fh0 fun v _ => Go.Ev.isA v (.bool true)) = true := by kernel_rfl
theorem run1 : ((Go.Ev.callF Tryz.prog Go.Ev.noneKnown 1000).call 201 [Go.Ev.mkV (.agg (Go.Ev.evRow 1 (.ofNat 0) 1 2 1 Go.Ev.it0))] Go.Ev.fh0 fun v _ => Go.Ev.isA v (Go.Ev.iv 0)) = true := by kernel_rfl
theorem run29 : ((Go.Ev.callF Tryz.prog Go.Ev.noneKnown 1000).call 201 [Go.Ev.mkV (.agg (Go.Ev.evRow 29 3 0 0 0 Go.Ev.it0))] Go.Ev.fh0 fun v _ => Go.Ev.isA v (Go.Ev.iv 0)) = true := by kernel_rfl
/-- The event 'cease' of an object whose number is not known. -/
noncomputable def ce : Go.Ev.V := Go.Ev.vAgg (Go.Ev.rowV [Go.Ev.mkV (Go.Ev.iv 25), Go.Ev.symV 0 9223372036854775809 9223372036855775808 [], Go.Ev.mkV (Go.Ev.iv 0), Go.Ev.mkV (Go.Ev.iv 0), Go.Ev.mkV (Go.Ev.iv 0), Go.Ev.mkV Go.Ev.nilS, Go.Ev.mkV (Go.Ev.iv 0), Go.Ev.mkV (Go.Ev.iv 0), Go.Ev.mkV (Go.Ev.iv 0), Go.Ev.mkV (Go.Ev.iv 0), Go.Ev.mkV (Go.Ev.iv 0), Go.Ev.mkV (Go.Ev.iv 0), Go.Ev.mkV Go.Ev.nilS]) 0 13
theorem run25 : ((Go.Ev.callF Tryz.prog Go.Ev.noneKnown 1000).call 201 [ce] Go.Ev.fh0 fun v _ => Go.Ev.isA v (Go.Ev.iv 0)) = true := by kernel_rfl
end Go.Proofs.YtcmplhmbmmclaaaGreat.boardLimit
