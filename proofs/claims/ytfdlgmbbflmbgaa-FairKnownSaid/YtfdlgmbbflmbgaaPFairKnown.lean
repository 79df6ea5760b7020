/- FairKnown's twin answers true. Conditions: none. -/
import Derived.Test.YtfdlgmbbflmbgaaFK2
import Derived.KernelRfl
namespace Go.Proofs.Ytfdlgmbbflmbgaa.Av
open Go
theorem plainFairKnown : M6 = some true := by kernel_rfl
end Go.Proofs.Ytfdlgmbbflmbgaa.Av
