/- Reckonings by the kernel: the beginning of the law and of its board, where a list lies in memory. Conditions: none. -/
import Derived.Test.YtcmplhmbmmclaaaGreatEvO
import Derived.Test.YtcmplhmbmmclaaaGreatProg
import Derived.KernelRfl
set_option linter.unusedVariables false
namespace Go.Proofs.YtcmplhmbmmclaaaGreat.targetApart
set_option maxRecDepth 1000000
theorem runPt : Go.Ev.pre6 Tryz.prog (Go.Ev.callF Tryz.prog (Go.Ev.ruleG 22 201) 1000) (Tryz.f6.body.getD .skip) (Tryz.f23.body.getD .skip) Go.Ev.fhP true 5 = true := by kernel_rfl
theorem runPf : Go.Ev.pre6 Tryz.prog (Go.Ev.callF Tryz.prog (Go.Ev.ruleG 22 201) 1000) (Tryz.f6.body.getD .skip) (Tryz.f23.body.getD .skip) Go.Ev.fhP false 5 = true := by kernel_rfl
end Go.Proofs.YtcmplhmbmmclaaaGreat.targetApart
