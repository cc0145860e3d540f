/- One reckoning by the kernel: the fast machine finds the call of 'works' true. Conditions: none. -/
import Derived.Test.YtcmplhmbmmclaaaGreatEvB
import Derived.Test.YtcmplhmbmmclaaaGreatProg
import Derived.KernelRfl
namespace Go.Proofs.YtcmplhmbmmclaaaGreat
set_option maxRecDepth 1000000
theorem combatFliesWorks : Go.Ev.fastTrue Tryz.prog Go.Ev.noneKnown 1000 33 = true := by kernel_rfl
end Go.Proofs.YtcmplhmbmmclaaaGreat
