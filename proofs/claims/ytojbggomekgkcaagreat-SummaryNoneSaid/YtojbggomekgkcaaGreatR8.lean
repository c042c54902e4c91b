import Derived.Test.YtojbggomekgkcaaGreatRuns
import Derived.KernelRfl
/- The closed run of a layer's test. -/
namespace Go.Proofs.YtojbggomekgkcaaGreat.C
open Go Go.Ev Go.Proofs
theorem r8 : goes (cfg p0) 334 = true := by kernel_rfl
end Go.Proofs.YtojbggomekgkcaaGreat.C
