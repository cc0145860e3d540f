/- The row's closed facts of the law, one by one. Conditions: none. -/
import Derived.Test.YtcmplhmbmmclaaaGreatRows
import Derived.JoinedOf
namespace Go.Proofs.YtcmplhmbmmclaaaGreat.turnTells
theorem fact1 : (Rows.turnTellsRow.inPlace == Tryz.pinned.checked.prog.inPlace 9) = true := of_decide_eq_true (by kernel_rfl)
theorem fact2 : (Rows.turnTellsRow.unfollowed == Tryz.pinned.checked.prog.unfollowed 9) = true := of_decide_eq_true (by kernel_rfl)
theorem fact3 : (Rows.turnTellsRow.recurses == Tryz.pinned.checked.prog.recurses 9) = true := of_decide_eq_true (by kernel_rfl)
theorem fact4 : (Rows.turnTellsRow.named == Tryz.pinned.checked.prog.varsNamed 9) = true := of_decide_eq_true (by kernel_rfl)
theorem facts : joinedFacts Tryz.pinned.checked.prog 9 Tryz.f9 Rows.turnTellsSpec Rows.turnTellsRow = true := by
  unfold joinedFacts
  rw [fact1, fact2, fact3, fact4]
  exact of_decide_eq_true (by kernel_rfl)
end Go.Proofs.YtcmplhmbmmclaaaGreat.turnTells
