/- The seat's table is true of its program. Conditions: none. -/
import Derived.Test.YtimcngbieedlcaaAv16
import Derived.Test.YtimcngbieedlcaaAv2
import Derived.Test.YtimcngbieedlcaaProg
import Derived.KernelRfl
namespace Go.Proofs.Ytimcngbieedlcaa.Av
open Go
theorem tab_ok:tab.all (fun t ti=>tiB Try.prog t ti)=true:=by kernel_rfl
theorem tau_ok:TOk Try.prog tau:=tok_of tab_ok
theorem mixed_ok:Try.prog.follows .mixedOrders=true:=by kernel_rfl
end Go.Proofs.Ytimcngbieedlcaa.Av
