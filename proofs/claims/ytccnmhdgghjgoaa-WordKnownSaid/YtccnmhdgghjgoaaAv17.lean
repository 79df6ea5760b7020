/- The seat's table is true of its program. Conditions: none. -/
import Derived.Test.YtccnmhdgghjgoaaAv16
import Derived.Test.YtccnmhdgghjgoaaAv2
import Derived.Test.YtccnmhdgghjgoaaProg
import Derived.KernelRfl
namespace Go.Proofs.Ytccnmhdgghjgoaa.Av
open Go
theorem tab_ok:tab.all (fun t ti=>tiB Try.prog t ti)=true:=by kernel_rfl
theorem tau_ok:TOk Try.prog tau:=tok_of tab_ok
theorem mixed_ok:Try.prog.follows .mixedOrders=true:=by kernel_rfl
end Go.Proofs.Ytccnmhdgghjgoaa.Av
