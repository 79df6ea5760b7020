/- What a row's reading of an argument says: the argument's data. Conditions: none. -/
import Derived.Test.YtkmpkebaloejhaaDoorGen0
import Derived.ChangeArms
import Derived.ChangeOld
import Derived.ChangeShapes
import Derived.DataReads
namespace Go.Proofs.YtkmpkebaloejhaaDoor.Av
open Go
end Go.Proofs.YtkmpkebaloejhaaDoor.Av
