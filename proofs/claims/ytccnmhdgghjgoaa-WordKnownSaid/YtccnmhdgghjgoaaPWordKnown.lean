/- The plain law of WordKnown: what its twin computes answers true. Conditions: none. -/
import Derived.Test.YtccnmhdgghjgoaaWk4
import Derived.Test.YtccnmhdgghjgoaaRead
import Derived.KernelRfl
set_option maxRecDepth 100000
namespace Go.Proofs.Ytccnmhdgghjgoaa.Av
open Go
theorem plainWordKnown:M6=some true:=rfl
end Go.Proofs.Ytccnmhdgghjgoaa.Av
