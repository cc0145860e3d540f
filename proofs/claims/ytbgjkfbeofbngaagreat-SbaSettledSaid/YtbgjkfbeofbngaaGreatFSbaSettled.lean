/- The row's closed facts of the law, one by one. Conditions: none. -/
import Derived.Test.YtbgjkfbeofbngaaGreatRows
import Derived.JoinedOf
namespace Go.Proofs.YtbgjkfbeofbngaaGreat.sbaSettled
theorem fact1:(Rows.sbaSettledRow.inPlace==Tryz.pinned.checked.prog.inPlace 5)=true:=of_decide_eq_true (by kernel_rfl)
theorem fact2:(Rows.sbaSettledRow.unfollowed==Tryz.pinned.checked.prog.unfollowed 5)=true:=of_decide_eq_true (by kernel_rfl)
theorem fact3:(Rows.sbaSettledRow.recurses==Tryz.pinned.checked.prog.recurses 5)=true:=of_decide_eq_true (by kernel_rfl)
theorem fact4:(Rows.sbaSettledRow.named==Tryz.pinned.checked.prog.varsNamed 5)=true:=of_decide_eq_true (by kernel_rfl)
theorem facts:joinedFacts Tryz.pinned.checked.prog 5 Tryz.f5 Rows.sbaSettledSpec Rows.sbaSettledRow=true:=by
 unfold joinedFacts
 rw[fact1,fact2,fact3,fact4]
 exact of_decide_eq_true (by kernel_rfl)
end Go.Proofs.YtbgjkfbeofbngaaGreat.sbaSettled
