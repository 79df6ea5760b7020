/- The plain law of StepKnown: what its twin computes answers true. Conditions: none. -/
import Derived.Test.YtimcngbieedlcaaSk4
import Derived.Test.YtimcngbieedlcaaRead
import Derived.KernelRfl
set_option maxRecDepth 100000
namespace Go.Proofs.Ytimcngbieedlcaa.Av
open Go
theorem plainStepKnown:M3=some true:=rfl
end Go.Proofs.Ytimcngbieedlcaa.Av
