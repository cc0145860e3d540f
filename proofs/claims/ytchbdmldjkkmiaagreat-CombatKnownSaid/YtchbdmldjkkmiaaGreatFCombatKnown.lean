/- The row's closed facts of the law, one by one. Conditions: none. -/
import Derived.Test.YtchbdmldjkkmiaaGreatRows
import Derived.JoinedOf
namespace Go.Proofs.YtchbdmldjkkmiaaGreat.combatKnown
theorem fact1 : (Rows.combatKnownRow.inPlace == Tryz.pinned.checked.prog.inPlace 5) = true := of_decide_eq_true (by kernel_rfl)
theorem fact2 : (Rows.combatKnownRow.unfollowed == Tryz.pinned.checked.prog.unfollowed 5) = true := of_decide_eq_true (by kernel_rfl)
theorem fact3 : (Rows.combatKnownRow.recurses == Tryz.pinned.checked.prog.recurses 5) = true := of_decide_eq_true (by kernel_rfl)
theorem fact4 : (Rows.combatKnownRow.named == Tryz.pinned.checked.prog.varsNamed 5) = true := of_decide_eq_true (by kernel_rfl)
theorem facts : joinedFacts Tryz.pinned.checked.prog 5 Tryz.f5 Rows.combatKnownSpec Rows.combatKnownRow = true := by
  unfold joinedFacts
  rw [fact1, fact2, fact3, fact4]
  exact of_decide_eq_true (by kernel_rfl)
end Go.Proofs.YtchbdmldjkkmiaaGreat.combatKnown
