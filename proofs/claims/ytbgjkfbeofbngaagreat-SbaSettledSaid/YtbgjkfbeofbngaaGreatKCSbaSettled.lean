/- Reckonings by the kernel: what event.Check says of the law's events, with numbers that are not known. Conditions: none. -/
import Derived.Test.YtbgjkfbeofbngaaGreatEvN
import Derived.Test.YtbgjkfbeofbngaaGreatProg
import Derived.KernelRfl
set_option linter.unusedVariables false
namespace Go.Proofs.YtbgjkfbeofbngaaGreat.sbaSettled
open Go.Ev
set_option maxRecDepth 1000000
noncomputable def evN:V:=vAgg (rowV [mkV (iv 1),symV 0 9223372036854775808 9223372036854775810 [],symV 1 9223372036854775808 9223372036854775811 [],mkV (iv 2),symV 2 9223372036854775808 9223372036854775809 [],mkV nilS,mkV (iv 0),mkV (iv 0),mkV (iv 0),mkV (iv 0),mkV (iv 0),mkV (iv 0),mkV nilS]) 0 13
theorem chkN:((callF Tryz.prog noneKnown 1000).call 253 [evN] fh0 λv _=>isA v (iv 0))=true:=by kernel_rfl
noncomputable def evI:V:=vAgg (rowV [mkV (iv 7),symV 0 9223372036854775808 9223372036854775810 [],mkV (iv 0),symV 1 9223372036854775784 9223372036854775808 [],mkV (iv 0),mkV nilS,mkV (iv 0),mkV (iv 0),mkV (iv 0),mkV (iv 0),mkV (iv 0),mkV (iv 0),mkV nilS]) 0 13
theorem chkI:((callF Tryz.prog noneKnown 1000).call 253 [evI] fh0 λv _=>isA v (iv 0))=true:=by kernel_rfl
noncomputable def evH:V:=vAgg (rowV [mkV (iv 5),symV 0 9223372036854775809 9223372036855775808 [],mkV (iv 0),symV 1 9223372036854775808 9223372036854775810 [],mkV (iv 0),mkV nilS,mkV (iv 0),mkV (iv 0),mkV (iv 0),mkV (iv 0),mkV (iv 0),mkV (iv 0),mkV nilS]) 0 13
theorem chkH:((callF Tryz.prog noneKnown 1000).call 253 [evH] fh0 λv _=>isA v (iv 0))=true:=by kernel_rfl
noncomputable def evO:V:=vAgg (rowV [mkV (iv 5),mkV (iv 0),mkV (iv 0),symV 0 9223372036854775808 9223372036854775810 [],mkV (iv 0),mkV nilS,mkV (iv 0),mkV (iv 0),mkV (iv 0),mkV (iv 0),mkV (iv 0),mkV (iv 0),mkV nilS]) 0 13
theorem chkO:((callF Tryz.prog noneKnown 1000).call 253 [evO] fh0 λv _=>isA v (iv 2))=true:=by kernel_rfl
noncomputable def evE:V:=vAgg (rowV [mkV (iv 24),symV 0 9223372036854775808 9223372036854775810 [],mkV (iv 0),mkV (iv 0),mkV (iv 0),mkV nilS,mkV (iv 0),mkV (iv 0),mkV (iv 0),mkV (iv 0),mkV (iv 0),mkV (iv 0),mkV nilS]) 0 13
theorem chkE:((callF Tryz.prog noneKnown 1000).call 253 [evE] fh0 λv _=>isA v (iv 0))=true:=by kernel_rfl
noncomputable def evW:V:=vAgg (rowV [mkV (iv 17),mkV (iv 0),mkV (iv 0),mkV (iv 0),mkV (iv 0),mkV nilS,mkV (iv 0),mkV (iv 3),symV 0 9223372036854775808 9223372036854775810 [],symV 1 9223372036854775808 9223372036855775808 [],symV 2 9223372036854775808 9223372036854775811 [],symV 3 9223372036854775808 9223372036854775811 [],mkV nilS]) 0 13
theorem chkW:((callF Tryz.prog noneKnown 1000).call 253 [evW] fh0 λv _=>isA v (iv 0))=true:=by kernel_rfl
noncomputable def evL:V:=vAgg (rowV [mkV (iv 23),symV 0 9223372036854775808 9223372036854775810 [],mkV (iv 0),mkV (iv 0),mkV (iv 0),mkV nilS,mkV (iv 0),mkV (iv 0),mkV (iv 0),mkV (iv 0),mkV (iv 0),mkV (iv 0),mkV nilS]) 0 13
theorem chkL:((callF Tryz.prog noneKnown 1000).call 253 [evL] fh0 λv _=>isA v (iv 0))=true:=by kernel_rfl
noncomputable def evU:V:=vAgg (rowV [mkV (iv 18),symV 0 9223372036854775809 9223372036855775808 [],mkV (iv 0),mkV (iv 0),mkV (iv 0),mkV nilS,mkV (iv 0),mkV (iv 0),mkV (iv 0),mkV (iv 0),mkV (iv 0),mkV (iv 0),mkV nilS]) 0 13
theorem chkU:((callF Tryz.prog noneKnown 1000).call 253 [evU] fh0 λv _=>isA v (iv 0))=true:=by kernel_rfl
noncomputable def evC:V:=vAgg (rowV [mkV (iv 25),symV 0 9223372036854775809 9223372036855775808 [],mkV (iv 0),mkV (iv 0),mkV (iv 0),mkV nilS,mkV (iv 0),mkV (iv 0),mkV (iv 0),mkV (iv 0),mkV (iv 0),mkV (iv 0),mkV nilS]) 0 13
theorem chkC:((callF Tryz.prog noneKnown 1000).call 253 [evC] fh0 λv _=>isA v (iv 0))=true:=by kernel_rfl
noncomputable def evY:V:=vAgg (rowV [mkV (iv 2),symV 0 9223372036854775809 9223372036855775808 [],mkV (iv 3),mkV (iv 0),mkV (iv 0),mkV nilS,mkV (iv 0),mkV (iv 0),mkV (iv 0),mkV (iv 0),mkV (iv 0),mkV (iv 0),mkV nilS]) 0 13
theorem chkY:((callF Tryz.prog noneKnown 1000).call 253 [evY] fh0 λv _=>isA v (iv 0))=true:=by kernel_rfl
noncomputable def evX:V:=vAgg (rowV [mkV (iv 29),mkV (iv 1),symV 0 9223372036854775808 9223372036854775810 [],mkV (iv 0),mkV (iv 0),mkV nilS,mkV (iv 0),mkV (iv 0),mkV (iv 0),mkV (iv 0),mkV (iv 0),mkV (iv 0),mkV nilS]) 0 13
theorem chkX:((callF Tryz.prog noneKnown 1000).call 253 [evX] fh0 λv _=>isA v (iv 0))=true:=by kernel_rfl
noncomputable def evD:V:=vAgg (rowV [mkV (iv 29),mkV (iv 2),mkV (iv 0),mkV (iv 0),mkV (iv 0),mkV nilS,mkV (iv 0),mkV (iv 0),mkV (iv 0),mkV (iv 0),mkV (iv 0),mkV (iv 0),mkV nilS]) 0 13
theorem chkD:((callF Tryz.prog noneKnown 1000).call 253 [evD] fh0 λv _=>isA v (iv 0))=true:=by kernel_rfl
noncomputable def evG:V:=vAgg (rowV [mkV (iv 15),mkV (iv 0),mkV (iv 0),mkV (iv 0),mkV (iv 0),mkV nilS,mkV (iv 0),mkV (iv 3),symV 0 9223372036854775808 9223372036854775810 [],symV 1 9223372036854775807 9223372036855775808 [],symV 2 9223372036854775808 9223372036854775811 [],symV 3 9223372036854775808 9223372036854775811 [],mkV nilS]) 0 13
theorem chkG:((callF Tryz.prog noneKnown 1000).call 253 [evG] fh0 λv _=>isA v (iv 0))=true:=by kernel_rfl
noncomputable def evT:V:=vAgg (rowV [mkV (iv 29),mkV (iv 3),mkV (iv 0),mkV (iv 0),mkV (iv 0),mkV nilS,mkV (iv 0),mkV (iv 0),mkV (iv 0),mkV (iv 0),mkV (iv 0),mkV (iv 0),mkV nilS]) 0 13
theorem chkT:((callF Tryz.prog noneKnown 1000).call 253 [evT] fh0 λv _=>isA v (iv 0))=true:=by kernel_rfl
end Go.Proofs.YtbgjkfbeofbngaaGreat.sbaSettled
