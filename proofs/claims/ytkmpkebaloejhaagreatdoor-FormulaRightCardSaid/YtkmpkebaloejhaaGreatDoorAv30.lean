/- A region's order with operations that only make objects: the theorem. Conditions: none. -/
import Derived.Test.YtkmpkebaloejhaaGreatDoorAv29
namespace Go.Proofs.YtkmpkebaloejhaaGreatDoor.Av
open Go
section
variable {R:Type} {old fz0:Nat→Prop} {ρ0:Nat→Value} {w0:World} {objs0:Objs} {r:R} {P:Program} {τ:Nat→Option TI} {B:Ops} {gl:Nat→Option (List CV)}
 {G:Nat→List AV→Objs→(AV→Objs→Option R)→Option R} {owns:Nat→Nat→Bool}
end
end Go.Proofs.YtkmpkebaloejhaaGreatDoor.Av
