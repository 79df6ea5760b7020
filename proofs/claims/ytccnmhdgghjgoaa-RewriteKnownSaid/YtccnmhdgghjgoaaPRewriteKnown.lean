/- The plain law of RewriteKnown: what its twin computes answers true. Conditions: none. -/
import Derived.Test.YtccnmhdgghjgoaaRk3
import Derived.Test.YtccnmhdgghjgoaaRead
import Derived.KernelRfl
set_option maxRecDepth 100000
namespace Go.Proofs.Ytccnmhdgghjgoaa.Av
open Go
theorem plainRewriteKnown : M3 = some true := by kernel_rfl
end Go.Proofs.Ytccnmhdgghjgoaa.Av
