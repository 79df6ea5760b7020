/- Operations that only make objects. Conditions: none. -/
import Derived.Test.YtccnmhdgghjgoaaAv26
namespace Go.Proofs.Ytccnmhdgghjgoaa.Av
open Go
end Go.Proofs.Ytccnmhdgghjgoaa.Av
