import Derived.Test.YtojbggomekgkcaaGreatRuns
import Derived.KernelRfl
/- The closed run of a layer's test. -/
namespace Go.Proofs.YtojbggomekgkcaaGreat.C
open Go Go.Ev Go.Proofs
theorem r22 : goes (cfg p1) 130 = true := by kernel_rfl
end Go.Proofs.YtojbggomekgkcaaGreat.C
