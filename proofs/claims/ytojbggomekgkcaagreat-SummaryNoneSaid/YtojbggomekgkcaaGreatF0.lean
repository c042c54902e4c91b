import Derived.Test.YtojbggomekgkcaaGreatRows
import Derived.JoinedOf
/- Closed facts of the row: part 0. -/
namespace Go.Proofs.YtojbggomekgkcaaGreat.summaryNone
theorem j1 : (laidOutB Tryz.prog) = true := by kernel_rfl
theorem j2 : (mapsRowed Tryz.prog) = true := by kernel_rfl
end Go.Proofs.YtojbggomekgkcaaGreat.summaryNone
