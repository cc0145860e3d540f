/- Reckonings by the kernel: the beginning of the law and of its board, where no list lies in memory, and where one does. Conditions: none. -/
import Derived.Test.YtbgjkfbeofbngaaGreatEvO
import Derived.Test.YtbgjkfbeofbngaaGreatProg
import Derived.KernelRfl
set_option linter.unusedVariables false
namespace Go.Proofs.YtbgjkfbeofbngaaGreat.turnEnds
open Go.Ev
set_option maxRecDepth 1000000
theorem runQt:pre403 Tryz.prog (callF Tryz.prog (ruleG 42 253) 1000) (Tryz.f7.body.getD .skip) (Tryz.f43.body.getD .skip) fhQ true 0=true:=by kernel_rfl
theorem runQf:pre403 Tryz.prog (callF Tryz.prog (ruleG 42 253) 1000) (Tryz.f7.body.getD .skip) (Tryz.f43.body.getD .skip) fhQ false 0=true:=by kernel_rfl
theorem runPt:pre403 Tryz.prog (callF Tryz.prog (ruleG 42 253) 1000) (Tryz.f7.body.getD .skip) (Tryz.f43.body.getD .skip) fhP true 5=true:=by kernel_rfl
theorem runPf:pre403 Tryz.prog (callF Tryz.prog (ruleG 42 253) 1000) (Tryz.f7.body.getD .skip) (Tryz.f43.body.getD .skip) fhP false 5=true:=by kernel_rfl
end Go.Proofs.YtbgjkfbeofbngaaGreat.turnEnds
