/- The row's closed facts of the law, one by one. Conditions: none. -/
import Derived.Test.YtbgjkfbeofbngaaGreatRows
import Derived.JoinedOf
namespace Go.Proofs.YtbgjkfbeofbngaaGreat.combatSums
theorem fact1:(Rows.combatSumsRow.inPlace==Tryz.pinned.checked.prog.inPlace 3)=true:=of_decide_eq_true (by kernel_rfl)
theorem fact2:(Rows.combatSumsRow.unfollowed==Tryz.pinned.checked.prog.unfollowed 3)=true:=of_decide_eq_true (by kernel_rfl)
theorem fact3:(Rows.combatSumsRow.recurses==Tryz.pinned.checked.prog.recurses 3)=true:=of_decide_eq_true (by kernel_rfl)
theorem fact4:(Rows.combatSumsRow.named==Tryz.pinned.checked.prog.varsNamed 3)=true:=of_decide_eq_true (by kernel_rfl)
theorem facts:joinedFacts Tryz.pinned.checked.prog 3 Tryz.f3 Rows.combatSumsSpec Rows.combatSumsRow=true:=by
 unfold joinedFacts
 rw[fact1,fact2,fact3,fact4]
 exact of_decide_eq_true (by kernel_rfl)
end Go.Proofs.YtbgjkfbeofbngaaGreat.combatSums
