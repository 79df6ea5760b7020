/- Operations that only make objects. Conditions: none. -/
import Derived.Test.YtccnmhdgghjgoaaGreatDoorAv26
namespace Go.Proofs.YtccnmhdgghjgoaaGreatDoor.Av
open Go
end Go.Proofs.YtccnmhdgghjgoaaGreatDoor.Av
