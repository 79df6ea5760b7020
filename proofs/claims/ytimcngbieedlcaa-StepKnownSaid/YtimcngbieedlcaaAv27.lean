/- Operations that only make objects. Conditions: none. -/
import Derived.Test.YtimcngbieedlcaaAv26
namespace Go.Proofs.Ytimcngbieedlcaa.Av
open Go
end Go.Proofs.Ytimcngbieedlcaa.Av
