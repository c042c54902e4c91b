import Derived.Test.YtojbggomekgkcaaGreatRuns
import Derived.KernelRfl
/- The closed run of a layer's test. -/
namespace Go.Proofs.YtojbggomekgkcaaGreat.C
open Go Go.Ev Go.Proofs
theorem r16 : goes (cfg p9) 232 = true := by kernel_rfl
end Go.Proofs.YtojbggomekgkcaaGreat.C
