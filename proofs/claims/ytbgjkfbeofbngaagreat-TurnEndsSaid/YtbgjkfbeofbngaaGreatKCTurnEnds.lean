/- Reckonings by the kernel: what event.Check says of the law's events, with numbers that are not known. Conditions: none. -/
import Derived.Test.YtbgjkfbeofbngaaGreatEvO
import Derived.Test.YtbgjkfbeofbngaaGreatProg
import Derived.KernelRfl
set_option linter.unusedVariables false
namespace Go.Proofs.YtbgjkfbeofbngaaGreat.turnEnds
open Go.Ev
set_option maxRecDepth 1000000
noncomputable def evT:V:=vAgg (rowV [mkV (iv 3),symV 0 9223372036854775809 9223372036854776808 [],mkV (iv 0),symV 1 9223372036854775808 9223372036854775809 [],mkV (iv 0),mkV nilS,mkV (iv 0),mkV (iv 0),mkV (iv 0),mkV (iv 0),mkV (iv 0),mkV (iv 0),mkV nilS]) 0 13
theorem chkT:((callF Tryz.prog noneKnown 1000).call 253 [evT] fh0 λv _=>isA v (iv 0))=true:=by kernel_rfl
noncomputable def evS:V:=vAgg (rowV [mkV (iv 4),symV 0 9223372036854775809 9223372036854776808 [],mkV (iv 0),mkV (iv 0),mkV (iv 0),mkV nilS,mkV (iv 0),mkV (iv 0),mkV (iv 0),mkV (iv 0),mkV (iv 0),mkV (iv 0),mkV nilS]) 0 13
theorem chkS:((callF Tryz.prog noneKnown 1000).call 253 [evS] fh0 λv _=>isA v (iv 0))=true:=by kernel_rfl
noncomputable def evM:V:=vAgg (rowV [mkV (iv 8),symV 0 9223372036854775808 9223372036854775810 [],symV 1 9223372036854775808 9223372036854775811 [],symV 2 9223372036854774809 9223372036854776807 [],mkV (iv 0),mkV nilS,mkV (iv 0),mkV (iv 0),mkV (iv 0),mkV (iv 0),mkV (iv 0),mkV (iv 0),mkV nilS]) 0 13
theorem chkM:((callF Tryz.prog noneKnown 1000).call 253 [evM] fh0 λv _=>isA v (iv 0))=true:=by kernel_rfl
noncomputable def evY:V:=vAgg (rowV [mkV (iv 2),symV 0 9223372036854775809 9223372036854776808 [],symV 1 9223372036854775809 9223372036854775811 [],mkV (iv 0),mkV (iv 0),mkV nilS,mkV (iv 0),mkV (iv 0),mkV (iv 0),mkV (iv 0),mkV (iv 0),mkV (iv 0),mkV nilS]) 0 13
theorem chkY:((callF Tryz.prog noneKnown 1000).call 253 [evY] fh0 λv _=>isA v (iv 0))=true:=by kernel_rfl
noncomputable def evE:V:=vAgg (rowV [mkV (iv 24),symV 0 9223372036854775808 9223372036854775810 [],mkV (iv 0),mkV (iv 0),mkV (iv 0),mkV nilS,mkV (iv 0),mkV (iv 0),mkV (iv 0),mkV (iv 0),mkV (iv 0),mkV (iv 0),mkV nilS]) 0 13
theorem chkE:((callF Tryz.prog noneKnown 1000).call 253 [evE] fh0 λv _=>isA v (iv 0))=true:=by kernel_rfl
noncomputable def evP:V:=vAgg (rowV [mkV (iv 19),symV 0 9223372036854775808 9223372036854775817 [],mkV (iv 0),mkV (iv 0),mkV (iv 0),mkV nilS,mkV (iv 0),mkV (iv 0),mkV (iv 0),mkV (iv 0),mkV (iv 0),mkV (iv 0),mkV nilS]) 0 13
theorem chkP:((callF Tryz.prog noneKnown 1000).call 253 [evP] fh0 λv _=>isA v (iv 0))=true:=by kernel_rfl
noncomputable def evO:V:=vAgg (rowV [mkV (iv 21),symV 0 9223372036854775808 9223372036854775810 [],mkV (iv 0),mkV (iv 0),mkV (iv 0),mkV nilS,mkV (iv 0),mkV (iv 0),mkV (iv 0),mkV (iv 0),mkV (iv 0),mkV (iv 0),mkV nilS]) 0 13
theorem chkO:((callF Tryz.prog noneKnown 1000).call 253 [evO] fh0 λv _=>isA v (iv 0))=true:=by kernel_rfl
noncomputable def evB:V:=vAgg (rowV [mkV (iv 22),mkV (iv 1),mkV (iv 0),mkV (iv 0),mkV (iv 0),mkV nilS,mkV (iv 0),mkV (iv 0),mkV (iv 0),mkV (iv 0),mkV (iv 0),mkV (iv 0),mkV nilS]) 0 13
theorem chkB:((callF Tryz.prog noneKnown 1000).call 253 [evB] fh0 λv _=>isA v (iv 0))=true:=by kernel_rfl
noncomputable def evA:V:=vAgg (rowV [mkV (iv 20),symV 0 9223372036854775808 9223372036854775810 [],mkV (iv 0),mkV (iv 0),mkV (iv 0),mkV nilS,mkV (iv 0),mkV (iv 0),mkV (iv 0),mkV (iv 0),mkV (iv 0),mkV (iv 0),mkV nilS]) 0 13
theorem chkA:((callF Tryz.prog noneKnown 1000).call 253 [evA] fh0 λv _=>isA v (iv 0))=true:=by kernel_rfl
noncomputable def evN:V:=vAgg (rowV [mkV (iv 1),symV 0 9223372036854775808 9223372036854775810 [],symV 1 9223372036854775808 9223372036854775813 [],symV 2 9223372036854775809 9223372036854775810 [],mkV (iv 0),mkV nilS,mkV (iv 0),mkV (iv 0),mkV (iv 0),mkV (iv 0),mkV (iv 0),mkV (iv 0),mkV nilS]) 0 13
theorem chkN:((callF Tryz.prog noneKnown 1000).call 253 [evN] fh0 λv _=>isA v (iv 0))=true:=by kernel_rfl
noncomputable def evL:V:=vAgg (rowV [mkV (iv 23),mkV (iv 1),mkV (iv 0),mkV (iv 0),mkV (iv 0),mkV nilS,mkV (iv 0),mkV (iv 0),mkV (iv 0),mkV (iv 0),mkV (iv 0),mkV (iv 0),mkV nilS]) 0 13
theorem chkL:((callF Tryz.prog noneKnown 1000).call 253 [evL] fh0 λv _=>isA v (iv 0))=true:=by kernel_rfl
noncomputable def evW:V:=vAgg (rowV [mkV (iv 17),mkV (iv 0),mkV (iv 0),mkV (iv 0),mkV (iv 0),mkV nilS,mkV (iv 0),mkV (iv 3),symV 0 9223372036854775808 9223372036854775810 [],symV 1 9223372036854775808 9223372036854776808 [],symV 2 9223372036854775808 9223372036854775813 [],symV 3 9223372036854775808 9223372036854775811 [],mkV nilS]) 0 13
theorem chkW:((callF Tryz.prog noneKnown 1000).call 253 [evW] fh0 λv _=>isA v (iv 0))=true:=by kernel_rfl
end Go.Proofs.YtbgjkfbeofbngaaGreat.turnEnds
