/- The row's closed facts of the law, one by one. Conditions: none. -/
import Derived.Test.YtnlndbanfdjaiaaGreatRows
import Derived.JoinedOf
namespace Go.Proofs.YtnlndbanfdjaiaaGreat.actRefuses
theorem fact1 : (Rows.actRefusesRow.inPlace == Tryz.pinned.checked.prog.inPlace 5) = true := of_decide_eq_true (by kernel_rfl)
theorem fact2 : (Rows.actRefusesRow.unfollowed == Tryz.pinned.checked.prog.unfollowed 5) = true := of_decide_eq_true (by kernel_rfl)
theorem fact3 : (Rows.actRefusesRow.recurses == Tryz.pinned.checked.prog.recurses 5) = true := of_decide_eq_true (by kernel_rfl)
theorem fact4 : (Rows.actRefusesRow.named == Tryz.pinned.checked.prog.varsNamed 5) = true := of_decide_eq_true (by kernel_rfl)
theorem facts : joinedFacts Tryz.pinned.checked.prog 5 Tryz.f5 Rows.actRefusesSpec Rows.actRefusesRow = true := by
  unfold joinedFacts
  rw [fact1, fact2, fact3, fact4]
  exact of_decide_eq_true (by kernel_rfl)
end Go.Proofs.YtnlndbanfdjaiaaGreat.actRefuses
