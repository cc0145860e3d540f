/- The row's closed facts of the law, one by one. Conditions: none. -/
import Derived.Test.YtcmplhmbmmclaaaGreatRows
import Derived.JoinedOf
namespace Go.Proofs.YtcmplhmbmmclaaaGreat.turnLands
theorem fact1 : (Rows.turnLandsRow.inPlace == Tryz.pinned.checked.prog.inPlace 8) = true := of_decide_eq_true (by kernel_rfl)
theorem fact2 : (Rows.turnLandsRow.unfollowed == Tryz.pinned.checked.prog.unfollowed 8) = true := of_decide_eq_true (by kernel_rfl)
theorem fact3 : (Rows.turnLandsRow.recurses == Tryz.pinned.checked.prog.recurses 8) = true := of_decide_eq_true (by kernel_rfl)
theorem fact4 : (Rows.turnLandsRow.named == Tryz.pinned.checked.prog.varsNamed 8) = true := of_decide_eq_true (by kernel_rfl)
theorem facts : joinedFacts Tryz.pinned.checked.prog 8 Tryz.f8 Rows.turnLandsSpec Rows.turnLandsRow = true := by
  unfold joinedFacts
  rw [fact1, fact2, fact3, fact4]
  exact of_decide_eq_true (by kernel_rfl)
end Go.Proofs.YtcmplhmbmmclaaaGreat.turnLands
