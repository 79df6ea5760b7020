/- The plain law of FormulaKnown: what its twin computes answers true. Conditions: none. -/
import Derived.Test.YtkmpkebaloejhaaDoorFk3
import Derived.Test.YtkmpkebaloejhaaDoorRead
import Derived.KernelRfl
set_option maxRecDepth 100000
namespace Go.Proofs.YtkmpkebaloejhaaDoor.Av
open Go
theorem wrap64 {n:Int} (h1:-9223372036854775808≤n) (h2:n≤9223372036854775807):IntKind.wrap IntKind.i64 n=n:=wrap_id h1 h2
theorem plainFormulaKnown:M13=some true:=by kernel_rfl
end Go.Proofs.YtkmpkebaloejhaaDoor.Av
