import Derived.Test.YtojbggomekgkcaaGreatRuns
import Derived.KernelRfl
/- The closed run of a layer's test. -/
namespace Go.Proofs.YtojbggomekgkcaaGreat.C
open Go Go.Ev Go.Proofs
theorem r14 : goes (cfg p7) 392 = true := by kernel_rfl
end Go.Proofs.YtojbggomekgkcaaGreat.C
