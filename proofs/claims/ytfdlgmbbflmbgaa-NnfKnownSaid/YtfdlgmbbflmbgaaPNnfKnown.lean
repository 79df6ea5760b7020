/- NnfKnown's twin answers true. Conditions: none. -/
import Derived.Test.YtfdlgmbbflmbgaaNK2
import Derived.KernelRfl
namespace Go.Proofs.Ytfdlgmbbflmbgaa.Av
open Go
theorem plainNnfKnown : M8 = some true := by kernel_rfl
end Go.Proofs.Ytfdlgmbbflmbgaa.Av
