/- Reckonings by the kernel: the beginning of the law and of its board, where no list lies in memory. Conditions: none. -/
import Derived.Test.YtcmplhmbmmclaaaGreatEvP
import Derived.Test.YtcmplhmbmmclaaaGreatProg
import Derived.KernelRfl
set_option linter.unusedVariables false
namespace Go.Proofs.YtcmplhmbmmclaaaGreat.turnLands
set_option maxRecDepth 1000000
theorem runQtt : Go.Ev.pre8 Tryz.prog (Go.Ev.callF Tryz.prog (Go.Ev.ruleG 34 201) 1000) (Tryz.f8.body.getD .skip) (Tryz.f35.body.getD .skip) Go.Ev.fhQ true true 0 = true := by kernel_rfl
theorem runQtf : Go.Ev.pre8 Tryz.prog (Go.Ev.callF Tryz.prog (Go.Ev.ruleG 34 201) 1000) (Tryz.f8.body.getD .skip) (Tryz.f35.body.getD .skip) Go.Ev.fhQ true false 0 = true := by kernel_rfl
theorem runQft : Go.Ev.pre8 Tryz.prog (Go.Ev.callF Tryz.prog (Go.Ev.ruleG 34 201) 1000) (Tryz.f8.body.getD .skip) (Tryz.f35.body.getD .skip) Go.Ev.fhQ false true 0 = true := by kernel_rfl
theorem runQff : Go.Ev.pre8 Tryz.prog (Go.Ev.callF Tryz.prog (Go.Ev.ruleG 34 201) 1000) (Tryz.f8.body.getD .skip) (Tryz.f35.body.getD .skip) Go.Ev.fhQ false false 0 = true := by kernel_rfl
end Go.Proofs.YtcmplhmbmmclaaaGreat.turnLands
