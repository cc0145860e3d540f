/- Reckonings by the kernel: what event.Check says of the law's events, with numbers that are not known. Conditions: none. -/
import Derived.Test.YtbgjkfbeofbngaaGreatEvN
import Derived.Test.YtbgjkfbeofbngaaGreatProg
import Derived.KernelRfl
set_option linter.unusedVariables false
namespace Go.Proofs.YtbgjkfbeofbngaaGreat.combatSums
set_option maxRecDepth 1000000
noncomputable def evN:Go.Ev.V:=Go.Ev.vAgg (Go.Ev.rowV [Go.Ev.mkV (Go.Ev.iv 1),Go.Ev.symV 0 9223372036854775808 9223372036854775809 [],Go.Ev.symV 1 9223372036854775809 9223372036854775816 [],Go.Ev.mkV (Go.Ev.iv 2),Go.Ev.mkV (Go.Ev.iv 0),Go.Ev.mkV Go.Ev.nilS,Go.Ev.mkV (Go.Ev.iv 0),Go.Ev.mkV (Go.Ev.iv 0),Go.Ev.mkV (Go.Ev.iv 0),Go.Ev.mkV (Go.Ev.iv 0),Go.Ev.mkV (Go.Ev.iv 0),Go.Ev.mkV (Go.Ev.iv 0),Go.Ev.mkV Go.Ev.nilS]) 0 13
theorem chkN:((Go.Ev.callF Tryz.prog Go.Ev.noneKnown 1000).call 253 [evN] Go.Ev.fh0 λv _=>Go.Ev.isA v (Go.Ev.iv 0))=true:=by kernel_rfl
noncomputable def evS:Go.Ev.V:=Go.Ev.vAgg (Go.Ev.rowV [Go.Ev.mkV (Go.Ev.iv 4),Go.Ev.symV 0 9223372036854775809 9223372036854775816 [],Go.Ev.mkV (Go.Ev.iv 0),Go.Ev.mkV (Go.Ev.iv 0),Go.Ev.mkV (Go.Ev.iv 0),Go.Ev.mkV Go.Ev.nilS,Go.Ev.mkV (Go.Ev.iv 0),Go.Ev.mkV (Go.Ev.iv 0),Go.Ev.mkV (Go.Ev.iv 0),Go.Ev.mkV (Go.Ev.iv 0),Go.Ev.mkV (Go.Ev.iv 0),Go.Ev.mkV (Go.Ev.iv 0),Go.Ev.mkV Go.Ev.nilS]) 0 13
theorem chkS:((Go.Ev.callF Tryz.prog Go.Ev.noneKnown 1000).call 253 [evS] Go.Ev.fh0 λv _=>Go.Ev.isA v (Go.Ev.iv 0))=true:=by kernel_rfl
noncomputable def evT:Go.Ev.V:=Go.Ev.vAgg (Go.Ev.rowV [Go.Ev.mkV (Go.Ev.iv 3),Go.Ev.symV 0 9223372036854775809 9223372036854775816 [],Go.Ev.mkV (Go.Ev.iv 0),Go.Ev.mkV (Go.Ev.iv 1),Go.Ev.mkV (Go.Ev.iv 0),Go.Ev.mkV Go.Ev.nilS,Go.Ev.mkV (Go.Ev.iv 0),Go.Ev.mkV (Go.Ev.iv 0),Go.Ev.mkV (Go.Ev.iv 0),Go.Ev.mkV (Go.Ev.iv 0),Go.Ev.mkV (Go.Ev.iv 0),Go.Ev.mkV (Go.Ev.iv 0),Go.Ev.mkV Go.Ev.nilS]) 0 13
theorem chkT:((Go.Ev.callF Tryz.prog Go.Ev.noneKnown 1000).call 253 [evT] Go.Ev.fh0 λv _=>Go.Ev.isA v (Go.Ev.iv 0))=true:=by kernel_rfl
noncomputable def evA:Go.Ev.V:=Go.Ev.vAgg (Go.Ev.rowV [Go.Ev.mkV (Go.Ev.iv 12),Go.Ev.symV 0 9223372036854775809 9223372036854775816 [],Go.Ev.mkV (Go.Ev.iv 2),Go.Ev.mkV (Go.Ev.iv 0),Go.Ev.mkV (Go.Ev.iv 0),Go.Ev.mkV Go.Ev.nilS,Go.Ev.mkV (Go.Ev.iv 0),Go.Ev.mkV (Go.Ev.iv 0),Go.Ev.mkV (Go.Ev.iv 0),Go.Ev.mkV (Go.Ev.iv 0),Go.Ev.mkV (Go.Ev.iv 0),Go.Ev.mkV (Go.Ev.iv 0),Go.Ev.mkV Go.Ev.nilS]) 0 13
theorem chkA:((Go.Ev.callF Tryz.prog Go.Ev.noneKnown 1000).call 253 [evA] Go.Ev.fh0 λv _=>Go.Ev.isA v (Go.Ev.iv 0))=true:=by kernel_rfl
noncomputable def evB:Go.Ev.V:=Go.Ev.vAgg (Go.Ev.rowV [Go.Ev.mkV (Go.Ev.iv 13),Go.Ev.symV 0 9223372036854775809 9223372036854775816 [],Go.Ev.symV 1 9223372036854775809 9223372036854775816 [],Go.Ev.mkV (Go.Ev.iv 0),Go.Ev.mkV (Go.Ev.iv 0),Go.Ev.mkV Go.Ev.nilS,Go.Ev.mkV (Go.Ev.iv 0),Go.Ev.mkV (Go.Ev.iv 0),Go.Ev.mkV (Go.Ev.iv 0),Go.Ev.mkV (Go.Ev.iv 0),Go.Ev.mkV (Go.Ev.iv 0),Go.Ev.mkV (Go.Ev.iv 0),Go.Ev.mkV Go.Ev.nilS]) 0 13
theorem chkB:((Go.Ev.callF Tryz.prog Go.Ev.noneKnown 1000).call 253 [evB] Go.Ev.fh0 λv _=>Go.Ev.isA v (Go.Ev.iv 0))=true:=by kernel_rfl
noncomputable def evP:Go.Ev.V:=Go.Ev.vAgg (Go.Ev.rowV [Go.Ev.mkV (Go.Ev.iv 14),Go.Ev.symV 0 9223372036854775809 9223372036854775816 [],Go.Ev.mkV (Go.Ev.iv 0),Go.Ev.mkV (Go.Ev.iv 1),Go.Ev.mkV (Go.Ev.iv 0),Go.Ev.mkV Go.Ev.nilS,Go.Ev.mkV (Go.Ev.iv 0),Go.Ev.mkV (Go.Ev.iv 0),Go.Ev.mkV (Go.Ev.iv 0),Go.Ev.mkV (Go.Ev.iv 0),Go.Ev.mkV (Go.Ev.iv 0),Go.Ev.mkV (Go.Ev.iv 0),Go.Ev.mkV Go.Ev.nilS]) 0 13
theorem chkP:((Go.Ev.callF Tryz.prog Go.Ev.noneKnown 1000).call 253 [evP] Go.Ev.fh0 λv _=>Go.Ev.isA v (Go.Ev.iv 0))=true:=by kernel_rfl
noncomputable def evH:Go.Ev.V:=Go.Ev.vAgg (Go.Ev.rowV [Go.Ev.mkV (Go.Ev.iv 5),Go.Ev.symV 0 9223372036854775809 9223372036854775816 [],Go.Ev.mkV (Go.Ev.iv 0),Go.Ev.symV 1 9223372036854775809 9223372036854775814 [],Go.Ev.mkV (Go.Ev.iv 0),Go.Ev.mkV Go.Ev.nilS,Go.Ev.mkV (Go.Ev.iv 0),Go.Ev.mkV (Go.Ev.iv 0),Go.Ev.mkV (Go.Ev.iv 0),Go.Ev.mkV (Go.Ev.iv 0),Go.Ev.mkV (Go.Ev.iv 0),Go.Ev.mkV (Go.Ev.iv 0),Go.Ev.mkV Go.Ev.nilS]) 0 13
theorem chkH:((Go.Ev.callF Tryz.prog Go.Ev.noneKnown 1000).call 253 [evH] Go.Ev.fh0 λv _=>Go.Ev.isA v (Go.Ev.iv 0))=true:=by kernel_rfl
noncomputable def evL:Go.Ev.V:=Go.Ev.vAgg (Go.Ev.rowV [Go.Ev.mkV (Go.Ev.iv 7),Go.Ev.mkV (Go.Ev.iv 1),Go.Ev.mkV (Go.Ev.iv 0),Go.Ev.symV 0 9223372036854775802 9223372036854775807 [],Go.Ev.mkV (Go.Ev.iv 0),Go.Ev.mkV Go.Ev.nilS,Go.Ev.mkV (Go.Ev.iv 0),Go.Ev.mkV (Go.Ev.iv 0),Go.Ev.mkV (Go.Ev.iv 0),Go.Ev.mkV (Go.Ev.iv 0),Go.Ev.mkV (Go.Ev.iv 0),Go.Ev.mkV (Go.Ev.iv 0),Go.Ev.mkV Go.Ev.nilS]) 0 13
theorem chkL:((Go.Ev.callF Tryz.prog Go.Ev.noneKnown 1000).call 253 [evL] Go.Ev.fh0 λv _=>Go.Ev.isA v (Go.Ev.iv 0))=true:=by kernel_rfl
end Go.Proofs.YtbgjkfbeofbngaaGreat.combatSums
