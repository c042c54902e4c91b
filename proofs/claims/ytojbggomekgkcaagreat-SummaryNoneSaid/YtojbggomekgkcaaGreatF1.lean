import Derived.Test.YtojbggomekgkcaaGreatRows
import Derived.JoinedOf
/- Closed facts of the row: part 1. -/
namespace Go.Proofs.YtojbggomekgkcaaGreat.summaryNone
theorem j9 : ((Rows.summaryNoneRow.inPlace == Tryz.prog.inPlace 3)) = true := by kernel_rfl
theorem j12 : ((Rows.summaryNoneRow.named == Tryz.prog.varsNamed 3)) = true := by kernel_rfl
end Go.Proofs.YtojbggomekgkcaaGreat.summaryNone
