/- The row's closed facts of the law, one by one. Conditions: none. -/
import Derived.Test.YtbgjkfbeofbngaaGreatRows
import Derived.JoinedOf
namespace Go.Proofs.YtbgjkfbeofbngaaGreat.sbaLeaves
theorem fact1:(Rows.sbaLeavesRow.inPlace==Tryz.pinned.checked.prog.inPlace 4)=true:=of_decide_eq_true (by kernel_rfl)
theorem fact2:(Rows.sbaLeavesRow.unfollowed==Tryz.pinned.checked.prog.unfollowed 4)=true:=of_decide_eq_true (by kernel_rfl)
theorem fact3:(Rows.sbaLeavesRow.recurses==Tryz.pinned.checked.prog.recurses 4)=true:=of_decide_eq_true (by kernel_rfl)
theorem fact4:(Rows.sbaLeavesRow.named==Tryz.pinned.checked.prog.varsNamed 4)=true:=of_decide_eq_true (by kernel_rfl)
theorem facts:joinedFacts Tryz.pinned.checked.prog 4 Tryz.f4 Rows.sbaLeavesSpec Rows.sbaLeavesRow=true:=by
 unfold joinedFacts
 rw[fact1,fact2,fact3,fact4]
 exact of_decide_eq_true (by kernel_rfl)
end Go.Proofs.YtbgjkfbeofbngaaGreat.sbaLeaves
