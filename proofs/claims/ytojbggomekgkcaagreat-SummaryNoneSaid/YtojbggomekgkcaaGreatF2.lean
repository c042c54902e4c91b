import Derived.Test.YtojbggomekgkcaaGreatRows
import Derived.JoinedOf
/- Closed facts of the row: part 2. -/
namespace Go.Proofs.YtojbggomekgkcaaGreat.summaryNone
theorem j10 : ((Rows.summaryNoneRow.unfollowed == Tryz.prog.unfollowed 3)) = true := by kernel_rfl
theorem j11 : ((Rows.summaryNoneRow.recurses == Tryz.prog.recurses 3)) = true := by kernel_rfl
end Go.Proofs.YtojbggomekgkcaaGreat.summaryNone
