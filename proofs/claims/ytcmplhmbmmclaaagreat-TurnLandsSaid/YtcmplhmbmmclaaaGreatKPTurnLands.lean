/- Reckonings by the kernel: the beginning of the law and of its board, where a list lies in memory. Conditions: none. -/
import Derived.Test.YtcmplhmbmmclaaaGreatEvP
import Derived.Test.YtcmplhmbmmclaaaGreatProg
import Derived.KernelRfl
set_option linter.unusedVariables false
namespace Go.Proofs.YtcmplhmbmmclaaaGreat.turnLands
set_option maxRecDepth 1000000
theorem runPtt : Go.Ev.pre8 Tryz.prog (Go.Ev.callF Tryz.prog (Go.Ev.ruleG 34 201) 1000) (Tryz.f8.body.getD .skip) (Tryz.f35.body.getD .skip) Go.Ev.fhP true true 5 = true := by kernel_rfl
theorem runPtf : Go.Ev.pre8 Tryz.prog (Go.Ev.callF Tryz.prog (Go.Ev.ruleG 34 201) 1000) (Tryz.f8.body.getD .skip) (Tryz.f35.body.getD .skip) Go.Ev.fhP true false 5 = true := by kernel_rfl
theorem runPft : Go.Ev.pre8 Tryz.prog (Go.Ev.callF Tryz.prog (Go.Ev.ruleG 34 201) 1000) (Tryz.f8.body.getD .skip) (Tryz.f35.body.getD .skip) Go.Ev.fhP false true 5 = true := by kernel_rfl
theorem runPff : Go.Ev.pre8 Tryz.prog (Go.Ev.callF Tryz.prog (Go.Ev.ruleG 34 201) 1000) (Tryz.f8.body.getD .skip) (Tryz.f35.body.getD .skip) Go.Ev.fhP false false 5 = true := by kernel_rfl
end Go.Proofs.YtcmplhmbmmclaaaGreat.turnLands
