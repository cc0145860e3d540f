/- The row's closed facts of the law, one by one. Conditions: none. -/
import Derived.Test.YtcmplhmbmmclaaaGreatRows
import Derived.JoinedOf
namespace Go.Proofs.YtcmplhmbmmclaaaGreat.boardLimit
theorem fact1 : (Rows.boardLimitRow.inPlace == Tryz.pinned.checked.prog.inPlace 3) = true := of_decide_eq_true (by kernel_rfl)
theorem fact2 : (Rows.boardLimitRow.unfollowed == Tryz.pinned.checked.prog.unfollowed 3) = true := of_decide_eq_true (by kernel_rfl)
theorem fact3 : (Rows.boardLimitRow.recurses == Tryz.pinned.checked.prog.recurses 3) = true := of_decide_eq_true (by kernel_rfl)
theorem fact4 : (Rows.boardLimitRow.named == Tryz.pinned.checked.prog.varsNamed 3) = true := of_decide_eq_true (by kernel_rfl)
theorem facts : joinedFacts Tryz.pinned.checked.prog 3 Tryz.f3 Rows.boardLimitSpec Rows.boardLimitRow = true := by
  unfold joinedFacts
  rw [fact1, fact2, fact3, fact4]
  exact of_decide_eq_true (by kernel_rfl)
end Go.Proofs.YtcmplhmbmmclaaaGreat.boardLimit
