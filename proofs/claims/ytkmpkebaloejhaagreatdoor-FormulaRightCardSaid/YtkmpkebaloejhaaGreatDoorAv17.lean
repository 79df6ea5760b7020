/- The seat's table is true of its program. Conditions: none. -/
import Derived.Test.YtkmpkebaloejhaaGreatDoorAv16
import Derived.Test.YtkmpkebaloejhaaGreatDoorAv2
import Derived.Test.YtkmpkebaloejhaaGreatDoorProg
import Derived.KernelRfl
namespace Go.Proofs.YtkmpkebaloejhaaGreatDoor.Av
open Go
theorem tab_ok:tab.all (fun t ti=>tiB Tryz.prog t ti)=true:=by kernel_rfl
theorem tau_ok:TOk Tryz.prog tau:=tok_of tab_ok
theorem mixed_ok:Tryz.prog.follows .mixedOrders=true:=by kernel_rfl
end Go.Proofs.YtkmpkebaloejhaaGreatDoor.Av
