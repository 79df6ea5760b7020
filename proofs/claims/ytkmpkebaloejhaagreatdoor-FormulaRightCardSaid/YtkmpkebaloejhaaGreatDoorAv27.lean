/- Operations that only make objects. Conditions: none. -/
import Derived.Test.YtkmpkebaloejhaaGreatDoorAv26
namespace Go.Proofs.YtkmpkebaloejhaaGreatDoor.Av
open Go
end Go.Proofs.YtkmpkebaloejhaaGreatDoor.Av
