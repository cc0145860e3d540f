/- The row's closed facts of the law, one by one. Conditions: none. -/
import Derived.Test.YtnlndbanfdjaiaaGreatRows
import Derived.JoinedOf
namespace Go.Proofs.YtnlndbanfdjaiaaGreat.combatOnce
theorem fact1 : (Rows.combatOnceRow.inPlace == Tryz.pinned.checked.prog.inPlace 4) = true := of_decide_eq_true (by kernel_rfl)
theorem fact2 : (Rows.combatOnceRow.unfollowed == Tryz.pinned.checked.prog.unfollowed 4) = true := of_decide_eq_true (by kernel_rfl)
theorem fact3 : (Rows.combatOnceRow.recurses == Tryz.pinned.checked.prog.recurses 4) = true := of_decide_eq_true (by kernel_rfl)
theorem fact4 : (Rows.combatOnceRow.named == Tryz.pinned.checked.prog.varsNamed 4) = true := of_decide_eq_true (by kernel_rfl)
theorem facts : joinedFacts Tryz.pinned.checked.prog 4 Tryz.f4 Rows.combatOnceSpec Rows.combatOnceRow = true := by
  unfold joinedFacts
  rw [fact1, fact2, fact3, fact4]
  exact of_decide_eq_true (by kernel_rfl)
end Go.Proofs.YtnlndbanfdjaiaaGreat.combatOnce
