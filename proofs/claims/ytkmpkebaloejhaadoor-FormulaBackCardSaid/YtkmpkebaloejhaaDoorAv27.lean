/- Operations that only make objects. Conditions: none. -/
import Derived.Test.YtkmpkebaloejhaaDoorAv26
namespace Go.Proofs.YtkmpkebaloejhaaDoor.Av
open Go
end Go.Proofs.YtkmpkebaloejhaaDoor.Av
