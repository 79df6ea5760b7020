/- Operations beside objects that are not there yet. Conditions: none. -/
import Derived.Test.YtkmpkebaloejhaaGreatDoorAv25
namespace Go.Proofs.YtkmpkebaloejhaaGreatDoor.Av
open Go
section
variable {R:Type} {r:R} {τ:Nat→Option TI} {B:Ops} {gl:Nat→Option (List CV)} {G:Nat→List AV→Objs→(AV→Objs→Option R)→Option R} {owns:Nat→Nat→Bool}
end
end Go.Proofs.YtkmpkebaloejhaaGreatDoor.Av
