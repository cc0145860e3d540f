/- Reckonings by the kernel: the beginning of the law's board, where no list lies in memory, and where one does. Conditions: none. -/
import Derived.Test.YtbgjkfbeofbngaaGreatEvM
import Derived.Test.YtbgjkfbeofbngaaGreatProg
import Derived.KernelRfl
set_option linter.unusedVariables false
namespace Go.Proofs.YtbgjkfbeofbngaaGreat.actPays
open Go.Ev
set_option maxRecDepth 1000000
theorem runQ : pre407 Tryz.prog (callF Tryz.prog (ruleH 41 253 165 169) 1000) (Tryz.f34.body.getD .skip) fhQ 0 = true := by kernel_rfl
theorem runP : pre407 Tryz.prog (callF Tryz.prog (ruleH 41 253 165 169) 1000) (Tryz.f34.body.getD .skip) fhP 5 = true := by kernel_rfl
end Go.Proofs.YtbgjkfbeofbngaaGreat.actPays
