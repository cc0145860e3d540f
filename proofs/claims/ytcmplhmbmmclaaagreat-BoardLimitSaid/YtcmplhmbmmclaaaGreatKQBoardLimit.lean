/- Reckonings by the kernel: the beginning of the law, at each room, where no list lies in memory. Conditions: none. -/
import Derived.Test.YtcmplhmbmmclaaaGreatEvL
import Derived.Test.YtcmplhmbmmclaaaGreatProg
import Derived.KernelRfl
set_option linter.unusedVariables false
namespace Go.Proofs.YtcmplhmbmmclaaaGreat.boardLimit
set_option maxRecDepth 1000000
theorem runQ : (List.range 31).all (Go.Ev.pre3 Tryz.prog (Go.Ev.callF Tryz.prog (Go.Ev.stuckAt 16 201) 1000) (Tryz.f3.body.getD .skip) Go.Ev.fhQ 0) = true := by kernel_rfl
end Go.Proofs.YtcmplhmbmmclaaaGreat.boardLimit
