/- The row's closed facts of the law, one by one. Conditions: none. -/
import Derived.Test.YtchbdmldjkkmiaaGreatRows
import Derived.JoinedOf
namespace Go.Proofs.YtchbdmldjkkmiaaGreat.sbaKnown
theorem fact1 : (Rows.sbaKnownRow.inPlace == Tryz.pinned.checked.prog.inPlace 6) = true := of_decide_eq_true (by kernel_rfl)
theorem fact2 : (Rows.sbaKnownRow.unfollowed == Tryz.pinned.checked.prog.unfollowed 6) = true := of_decide_eq_true (by kernel_rfl)
theorem fact3 : (Rows.sbaKnownRow.recurses == Tryz.pinned.checked.prog.recurses 6) = true := of_decide_eq_true (by kernel_rfl)
theorem fact4 : (Rows.sbaKnownRow.named == Tryz.pinned.checked.prog.varsNamed 6) = true := of_decide_eq_true (by kernel_rfl)
theorem facts : joinedFacts Tryz.pinned.checked.prog 6 Tryz.f6 Rows.sbaKnownSpec Rows.sbaKnownRow = true := by
  unfold joinedFacts
  rw [fact1, fact2, fact3, fact4]
  exact of_decide_eq_true (by kernel_rfl)
end Go.Proofs.YtchbdmldjkkmiaaGreat.sbaKnown
