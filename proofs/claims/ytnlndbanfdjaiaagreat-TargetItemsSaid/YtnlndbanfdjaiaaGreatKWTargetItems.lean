/- One reckoning by the kernel: the fast machine finds the call of 'works' true. Conditions: none. -/
import Derived.Test.YtnlndbanfdjaiaaGreatEvB
import Derived.Test.YtnlndbanfdjaiaaGreatProg
import Derived.KernelRfl
namespace Go.Proofs.YtnlndbanfdjaiaaGreat
set_option maxRecDepth 1000000
theorem targetItemsWorks : Go.Ev.fastTrue Tryz.prog Go.Ev.noneKnown 1000 6 = true := by kernel_rfl
end Go.Proofs.YtnlndbanfdjaiaaGreat
