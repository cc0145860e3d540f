/- Reckonings by the kernel: the beginning of the law, where no list lies in memory. Conditions: none. -/
import Derived.Test.YtcmplhmbmmclaaaGreatEvM
import Derived.Test.YtcmplhmbmmclaaaGreatProg
import Derived.KernelRfl
set_option linter.unusedVariables false
namespace Go.Proofs.YtcmplhmbmmclaaaGreat.sbaTurns
set_option maxRecDepth 1000000
theorem runQ : Go.Ev.pre4 Tryz.prog (Go.Ev.callF Tryz.prog (Go.Ev.ruleS 17 201) 1000) (Tryz.f4.body.getD .skip) Go.Ev.fhQ 0 = true := by kernel_rfl
end Go.Proofs.YtcmplhmbmmclaaaGreat.sbaTurns
