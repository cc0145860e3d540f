/- The row's closed facts of the law, one by one. Conditions: none. -/
import Derived.Test.YtchbdmldjkkmiaaGreatRows
import Derived.JoinedOf
namespace Go.Proofs.YtchbdmldjkkmiaaGreat.targetKnown
theorem fact1 : (Rows.targetKnownRow.inPlace == Tryz.pinned.checked.prog.inPlace 3) = true := of_decide_eq_true (by kernel_rfl)
theorem fact2 : (Rows.targetKnownRow.unfollowed == Tryz.pinned.checked.prog.unfollowed 3) = true := of_decide_eq_true (by kernel_rfl)
theorem fact3 : (Rows.targetKnownRow.recurses == Tryz.pinned.checked.prog.recurses 3) = true := of_decide_eq_true (by kernel_rfl)
theorem fact4 : (Rows.targetKnownRow.named == Tryz.pinned.checked.prog.varsNamed 3) = true := of_decide_eq_true (by kernel_rfl)
theorem facts : joinedFacts Tryz.pinned.checked.prog 3 Tryz.f3 Rows.targetKnownSpec Rows.targetKnownRow = true := by
  unfold joinedFacts
  rw [fact1, fact2, fact3, fact4]
  exact of_decide_eq_true (by kernel_rfl)
end Go.Proofs.YtchbdmldjkkmiaaGreat.targetKnown
