import Derived.Test.YtojbggomekgkcaaGreatRuns
import Derived.KernelRfl
/- The closed run of a layer's test. -/
namespace Go.Proofs.YtojbggomekgkcaaGreat.C
open Go Go.Ev Go.Proofs
theorem r20 : goes (cfg p5) 128 = true := by kernel_rfl
end Go.Proofs.YtojbggomekgkcaaGreat.C
