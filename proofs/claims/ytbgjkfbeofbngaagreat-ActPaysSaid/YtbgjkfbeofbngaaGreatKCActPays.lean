/- Reckonings by the kernel: what event.Check says of the law's events, with numbers that are not known; package mana. Conditions: none. -/
import Derived.Test.YtbgjkfbeofbngaaGreatEvM
import Derived.Test.YtbgjkfbeofbngaaGreatProg
import Derived.KernelRfl
set_option linter.unusedVariables false
namespace Go.Proofs.YtbgjkfbeofbngaaGreat.actPays
open Go.Ev
set_option maxRecDepth 1000000
noncomputable def evN : V := vAgg (rowV [mkV (iv 1), mkV (iv 0), symV 0 9223372036854775808 9223372036854775811 [], symV 1 9223372036854775809 9223372036854775810 [], mkV (iv 0), mkV nilS, mkV (iv 0), mkV (iv 0), mkV (iv 0), mkV (iv 0), mkV (iv 0), mkV (iv 0), mkV nilS]) 0 13
theorem chkN : ((callF Tryz.prog noneKnown 1000).call 253 [evN] fh0 fun v _ => isA v (iv 0)) = true := by kernel_rfl
noncomputable def evZ : V := vAgg (rowV [mkV (iv 28), mkV (iv 0), mkV (iv 0), mkV (iv 0), mkV (iv 0), mkV nilS, mkV (iv 0), mkV (iv 0), mkV (iv 0), mkV (iv 0), mkV (iv 0), mkV (iv 0), mkV nilS]) 0 13
theorem chkZ : ((callF Tryz.prog noneKnown 1000).call 253 [evZ] fh0 fun v _ => isA v (iv 0)) = true := by kernel_rfl
noncomputable def evC : V := vAgg (rowV [mkV (iv 28), mkV (iv 0), mkV (iv 0), symV 2 9223372036854775808 9223372036854775809 [], mkV (iv 0), mkV nilS, mkV (iv 0), symV 0 9223372036854775809 9223372036854775810 [], mkV (iv 0), symV 1 9223372036854775809 9223372036854775811 [], mkV (iv 0), mkV (iv 0), mkV nilS]) 0 13
theorem chkC : ((callF Tryz.prog noneKnown 1000).call 253 [evC] fh0 fun v _ => isA v (iv 0)) = true := by kernel_rfl
noncomputable def evT : V := vAgg (rowV [mkV (iv 3), symV 0 9223372036854775812 9223372036854775817 [], mkV (iv 0), mkV (iv 1), mkV (iv 0), mkV nilS, mkV (iv 0), mkV (iv 0), mkV (iv 0), mkV (iv 0), mkV (iv 0), mkV (iv 0), mkV nilS]) 0 13
theorem chkT : ((callF Tryz.prog noneKnown 1000).call 253 [evT] fh0 fun v _ => isA v (iv 0)) = true := by kernel_rfl
noncomputable def evM : V := vAgg (rowV [mkV (iv 8), mkV (iv 0), mkV (iv 0), symV 0 9223372036854775807 9223372036854775809 [], mkV (iv 0), mkV nilS, mkV (iv 0), mkV (iv 0), mkV (iv 0), mkV (iv 0), mkV (iv 0), mkV (iv 0), mkV nilS]) 0 13
theorem chkM : ((callF Tryz.prog noneKnown 1000).call 253 [evM] fh0 fun v _ => isA v (iv 0)) = true := by kernel_rfl
noncomputable def evY : V := vAgg (rowV [mkV (iv 2), symV 0 9223372036854775809 9223372036854775810 [], mkV (iv 5), mkV (iv 0), mkV (iv 0), mkV nilS, mkV (iv 0), mkV (iv 0), mkV (iv 0), mkV (iv 0), mkV (iv 0), mkV (iv 0), mkV nilS]) 0 13
theorem chkY : ((callF Tryz.prog noneKnown 1000).call 253 [evY] fh0 fun v _ => isA v (iv 0)) = true := by kernel_rfl
noncomputable def evP : V := vAgg (rowV [mkV (iv 15), mkV (iv 0), mkV (iv 0), mkV (iv 0), mkV (iv 0), mkV nilS, mkV (iv 0), mkV (iv 1), mkV (iv 0), symV 0 9223372036854775809 9223372036854776808 [], mkV (iv 2), mkV (iv 0), mkV nilS]) 0 13
theorem chkP : ((callF Tryz.prog noneKnown 1000).call 253 [evP] fh0 fun v _ => isA v (iv 0)) = true := by kernel_rfl
noncomputable def evCT0 : V := vAgg (rowV [mkV (iv 28), mkV (iv 0), mkV (iv 0), mkV (iv 1), mkV (iv 0), mkV nilS, mkV (iv 0), mkV (iv 1), mkV (iv 0), mkV (iv 1), mkV (iv 0), mkV (iv 0), mkV (.slice (some ⟨0, 0, 0⟩) 1 1 true 2)]) 0 13
theorem chkCT0 : ((callF Tryz.prog noneKnown 1000).call 253 [evCT0] (fh1 (rpR (rowA [iv 0, iv 0])) 2) (ck1 2 [iv 0, iv 0] (iv 0))) = true := by kernel_rfl
noncomputable def evCT1 : V := vAgg (rowV [mkV (iv 28), mkV (iv 0), mkV (iv 0), mkV (iv 1), mkV (iv 0), mkV nilS, mkV (iv 0), mkV (iv 1), mkV (iv 0), mkV (iv 1), mkV (iv 0), mkV (iv 0), mkV (.slice (some ⟨0, 0, 0⟩) 1 1 true 2)]) 0 13
theorem chkCT1 : ((callF Tryz.prog noneKnown 1000).call 253 [evCT1] (fh1 (rpR (rowA [iv 1, iv 0])) 2) (ck1 2 [iv 1, iv 0] (iv 0))) = true := by kernel_rfl
noncomputable def evPT0 : V := vAgg (rowV [mkV (iv 15), mkV (iv 0), mkV (iv 0), mkV (iv 0), mkV (iv 0), mkV nilS, mkV (iv 0), mkV (iv 1), mkV (iv 0), symV 0 9223372036854775809 9223372036854776808 [], mkV (iv 1), mkV (iv 0), mkV (.slice (some ⟨0, 0, 0⟩) 1 1 true 2)]) 0 13
theorem chkPT0 : ((callF Tryz.prog noneKnown 1000).call 253 [evPT0] (fh1 (rpR (rowA [iv 0, iv 0])) 2) (ck1 2 [iv 0, iv 0] (iv 0))) = true := by kernel_rfl
noncomputable def evPT1 : V := vAgg (rowV [mkV (iv 15), mkV (iv 0), mkV (iv 0), mkV (iv 0), mkV (iv 0), mkV nilS, mkV (iv 0), mkV (iv 1), mkV (iv 0), symV 0 9223372036854775809 9223372036854776808 [], mkV (iv 1), mkV (iv 0), mkV (.slice (some ⟨0, 0, 0⟩) 1 1 true 2)]) 0 13
theorem chkPT1 : ((callF Tryz.prog noneKnown 1000).call 253 [evPT1] (fh1 (rpR (rowA [iv 1, iv 0])) 2) (ck1 2 [iv 1, iv 0] (iv 0))) = true := by kernel_rfl
theorem cant : ((List.range 7).all fun x => (callF Tryz.prog noneKnown 1000).call 165 [mkV (.agg [iv (.ofNat x), iv 0, iv 0, iv 0]), mkV (.agg [iv 1, iv 0, iv 0, iv 0])] fh0 fun v _ => isA v (.bool (decide (1 ≤ x)))) = true := by kernel_rfl
theorem payt : ((List.range 6).all fun x => (callF Tryz.prog noneKnown 1000).call 169 [mkV (.agg [iv (.ofNat (x + 1)), iv 0, iv 0, iv 0]), mkV (.agg [iv 1, iv 0, iv 0, iv 0])] fh0 fun v _ => isA v (.tuple [.agg [iv (.ofNat x), iv 0, iv 0, iv 0], iv 0])) = true := by kernel_rfl
theorem canf : ((List.range 7).all fun x => (callF Tryz.prog noneKnown 1000).call 165 [mkV (.agg [iv (.ofNat x), iv 0, iv 0, iv 0]), mkV (.agg [iv 0, iv 0, iv 0, iv 1])] fh0 fun v _ => isA v (.bool (decide (1 ≤ x)))) = true := by kernel_rfl
theorem payf : ((List.range 6).all fun x => (callF Tryz.prog noneKnown 1000).call 169 [mkV (.agg [iv (.ofNat (x + 1)), iv 0, iv 0, iv 0]), mkV (.agg [iv 0, iv 0, iv 0, iv 1])] fh0 fun v _ => isA v (.tuple [.agg [iv (.ofNat x), iv 0, iv 0, iv 0], iv 0])) = true := by kernel_rfl
end Go.Proofs.YtbgjkfbeofbngaaGreat.actPays
