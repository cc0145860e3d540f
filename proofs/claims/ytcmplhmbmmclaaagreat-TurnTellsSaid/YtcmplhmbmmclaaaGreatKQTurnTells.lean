/- Reckonings by the kernel: the beginning of the law and of its board, where no list lies in memory. Conditions: none. -/
import Derived.Test.YtcmplhmbmmclaaaGreatEvP
import Derived.Test.YtcmplhmbmmclaaaGreatProg
import Derived.KernelRfl
set_option linter.unusedVariables false
namespace Go.Proofs.YtcmplhmbmmclaaaGreat.turnTells
set_option maxRecDepth 1000000
theorem runBQ : Go.Ev.pre9 Tryz.prog (Go.Ev.callF Tryz.prog (Go.Ev.ruleG 34 201) 1000) (Tryz.f9.body.getD .skip) (Tryz.f35.body.getD .skip) Go.Ev.fhQ 0 = true := by kernel_rfl
end Go.Proofs.YtcmplhmbmmclaaaGreat.turnTells
