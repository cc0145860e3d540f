/- The row's closed facts of the law, one by one. Conditions: none. -/
import Derived.Test.YtehcpacbinbioaaGreatRows
import Derived.JoinedOf
namespace Go.Proofs.YtehcpacbinbioaaGreat.judgeStays
theorem fact1 : (Rows.judgeStaysUptoRow.inPlace == Tryz.pinned.checked.prog.inPlace 3) = true := of_decide_eq_true (by kernel_rfl)
theorem fact2 : (Rows.judgeStaysUptoRow.unfollowed == Tryz.pinned.checked.prog.unfollowed 3) = true := of_decide_eq_true (by kernel_rfl)
theorem fact3 : (Rows.judgeStaysUptoRow.recurses == Tryz.pinned.checked.prog.recurses 3) = true := of_decide_eq_true (by kernel_rfl)
theorem fact4 : (Rows.judgeStaysUptoRow.named == Tryz.pinned.checked.prog.varsNamed 3) = true := of_decide_eq_true (by kernel_rfl)
theorem facts : joinedFacts Tryz.pinned.checked.prog 3 Tryz.f3 (Rows.OpenSpec.upto Rows.judgeStaysSpec).bare Rows.judgeStaysUptoRow = true := by
  unfold joinedFacts
  rw [fact1, fact2, fact3, fact4]
  exact of_decide_eq_true (by kernel_rfl)
end Go.Proofs.YtehcpacbinbioaaGreat.judgeStays
