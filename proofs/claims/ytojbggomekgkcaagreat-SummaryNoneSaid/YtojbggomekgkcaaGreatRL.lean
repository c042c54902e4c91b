import Derived.Test.YtojbggomekgkcaaGreatRuns
import Derived.KernelRfl
/- The closed run of the law. -/
namespace Go.Proofs.YtojbggomekgkcaaGreat.C
open Go Go.Ev Go.Proofs
theorem rL : goes (cfg p12) 3 = true := by kernel_rfl
end Go.Proofs.YtojbggomekgkcaaGreat.C
