/- The row's closed facts of the law, one by one. Conditions: none. -/
import Derived.Test.YtcmplhmbmmclaaaGreatRows
import Derived.JoinedOf
namespace Go.Proofs.YtcmplhmbmmclaaaGreat.targetStays
theorem fact1 : (Rows.targetStaysRow.inPlace == Tryz.pinned.checked.prog.inPlace 5) = true := of_decide_eq_true (by kernel_rfl)
theorem fact2 : (Rows.targetStaysRow.unfollowed == Tryz.pinned.checked.prog.unfollowed 5) = true := of_decide_eq_true (by kernel_rfl)
theorem fact3 : (Rows.targetStaysRow.recurses == Tryz.pinned.checked.prog.recurses 5) = true := of_decide_eq_true (by kernel_rfl)
theorem fact4 : (Rows.targetStaysRow.named == Tryz.pinned.checked.prog.varsNamed 5) = true := of_decide_eq_true (by kernel_rfl)
theorem facts : joinedFacts Tryz.pinned.checked.prog 5 Tryz.f5 Rows.targetStaysSpec Rows.targetStaysRow = true := by
  unfold joinedFacts
  rw [fact1, fact2, fact3, fact4]
  exact of_decide_eq_true (by kernel_rfl)
end Go.Proofs.YtcmplhmbmmclaaaGreat.targetStays
