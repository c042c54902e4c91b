import Derived.Test.YtojbggomekgkcaaGreatRuns
import Derived.KernelRfl
/- The closed run of a layer's test. -/
namespace Go.Proofs.YtojbggomekgkcaaGreat.C
open Go Go.Ev Go.Proofs
theorem r12 : goes (cfg p4) 431 = true := by kernel_rfl
end Go.Proofs.YtojbggomekgkcaaGreat.C
