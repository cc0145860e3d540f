/- The row's closed facts of the law, one by one. Conditions: none. -/
import Derived.Test.YtbgjkfbeofbngaaGreatRows
import Derived.JoinedOf
namespace Go.Proofs.YtbgjkfbeofbngaaGreat.turnEnds
theorem fact1:(Rows.turnEndsRow.inPlace==Tryz.pinned.checked.prog.inPlace 7)=true:=of_decide_eq_true (by kernel_rfl)
theorem fact2:(Rows.turnEndsRow.unfollowed==Tryz.pinned.checked.prog.unfollowed 7)=true:=of_decide_eq_true (by kernel_rfl)
theorem fact3:(Rows.turnEndsRow.recurses==Tryz.pinned.checked.prog.recurses 7)=true:=of_decide_eq_true (by kernel_rfl)
theorem fact4:(Rows.turnEndsRow.named==Tryz.pinned.checked.prog.varsNamed 7)=true:=of_decide_eq_true (by kernel_rfl)
theorem facts:joinedFacts Tryz.pinned.checked.prog 7 Tryz.f7 Rows.turnEndsSpec Rows.turnEndsRow=true:=by
 unfold joinedFacts
 rw[fact1,fact2,fact3,fact4]
 exact of_decide_eq_true (by kernel_rfl)
end Go.Proofs.YtbgjkfbeofbngaaGreat.turnEnds
