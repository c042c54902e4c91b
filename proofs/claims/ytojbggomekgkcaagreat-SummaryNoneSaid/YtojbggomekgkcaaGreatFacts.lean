import Derived.Test.YtojbggomekgkcaaGreatF0
import Derived.Test.YtojbggomekgkcaaGreatF1
import Derived.Test.YtojbggomekgkcaaGreatF2
import Derived.Test.YtojbggomekgkcaaGreatF3
/- The row's closed facts, joined. -/
namespace Go.Proofs.YtojbggomekgkcaaGreat.summaryNone
theorem andT {a b : Bool} (h : a = true) (g : b = true) : (a && b) = true := by rw [h, g]; rfl
theorem facts : joinedFacts Tryz.prog 3 Tryz.f3 Rows.summaryNoneSpec Rows.summaryNoneRow = true := by
  unfold joinedFacts
  rw [j0, j1, j2, j3, j4, j5, j6, j7, j8, j9, j10, j11, j12, j13, j14, j15, j16, j17, j18, j19, j20, j21, j22, j23, j24, j25, j26, j27, j29, j30, j31]
  kernel_rfl
end Go.Proofs.YtojbggomekgkcaaGreat.summaryNone
