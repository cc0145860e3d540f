/- Reckonings by the kernel: the beginning of the law and of its board, where no list lies in memory, and where one does. Conditions: none. -/
import Derived.Test.YtbgjkfbeofbngaaGreatEvN
import Derived.Test.YtbgjkfbeofbngaaGreatProg
import Derived.KernelRfl
set_option linter.unusedVariables false
namespace Go.Proofs.YtbgjkfbeofbngaaGreat.sbaSettled
open Go.Ev
set_option maxRecDepth 1000000
theorem runQ:pre401 Tryz.prog (callF Tryz.prog (ruleG 21 253) 1000) (Tryz.f5.body.getD .skip) (Tryz.f22.body.getD .skip) fhQ 0=true:=by kernel_rfl
theorem runP:pre401 Tryz.prog (callF Tryz.prog (ruleG 21 253) 1000) (Tryz.f5.body.getD .skip) (Tryz.f22.body.getD .skip) fhP 5=true:=by kernel_rfl
end Go.Proofs.YtbgjkfbeofbngaaGreat.sbaSettled
