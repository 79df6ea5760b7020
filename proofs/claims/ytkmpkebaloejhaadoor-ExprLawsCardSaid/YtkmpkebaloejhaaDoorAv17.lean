/- The seat's table is true of its program. Conditions: none. -/
import Derived.Test.YtkmpkebaloejhaaDoorAv16
import Derived.Test.YtkmpkebaloejhaaDoorAv2
import Derived.Test.YtkmpkebaloejhaaDoorProg
import Derived.KernelRfl
namespace Go.Proofs.YtkmpkebaloejhaaDoor.Av
open Go
theorem tab_ok:tab.all (fun t ti=>tiB Tryd.prog t ti)=true:=by kernel_rfl
theorem tau_ok:TOk Tryd.prog tau:=tok_of tab_ok
theorem mixed_ok:Tryd.prog.follows .mixedOrders=true:=by kernel_rfl
end Go.Proofs.YtkmpkebaloejhaaDoor.Av
