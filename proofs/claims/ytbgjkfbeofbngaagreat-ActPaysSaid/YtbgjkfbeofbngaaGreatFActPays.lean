/- The row's closed facts of the law, one by one. Conditions: none. -/
import Derived.Test.YtbgjkfbeofbngaaGreatRows
import Derived.JoinedOf
namespace Go.Proofs.YtbgjkfbeofbngaaGreat.actPays
theorem fact1 : (Rows.actPaysRow.inPlace == Tryz.pinned.checked.prog.inPlace 6) = true := of_decide_eq_true (by kernel_rfl)
theorem fact2 : (Rows.actPaysRow.unfollowed == Tryz.pinned.checked.prog.unfollowed 6) = true := of_decide_eq_true (by kernel_rfl)
theorem fact3 : (Rows.actPaysRow.recurses == Tryz.pinned.checked.prog.recurses 6) = true := of_decide_eq_true (by kernel_rfl)
theorem fact4 : (Rows.actPaysRow.named == Tryz.pinned.checked.prog.varsNamed 6) = true := of_decide_eq_true (by kernel_rfl)
theorem facts : joinedFacts Tryz.pinned.checked.prog 6 Tryz.f6 Rows.actPaysSpec Rows.actPaysRow = true := by
  unfold joinedFacts
  rw [fact1, fact2, fact3, fact4]
  exact of_decide_eq_true (by kernel_rfl)
end Go.Proofs.YtbgjkfbeofbngaaGreat.actPays
