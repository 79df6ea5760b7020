/- slices.Grow at []api.Part: the kit's shelf,laid by hand. Conditions: none. -/
import Derived.Test.YtccnmhdgghjgoaaGreatDoorGen0
import Derived.Shelf.Spec.SlicesGrow
namespace Go.Proofs.YtccnmhdgghjgoaaGreatDoor.Av
open Go Go.Shelf Go.Proofs Go.RowKit
end Go.Proofs.YtccnmhdgghjgoaaGreatDoor.Av
