/- What a row says of its listed package-level arrays: what the evaluator's table says. Conditions: none. -/
import Derived.Test.YtkmpkebaloejhaaDoorRead
import Derived.OpenShut
import Derived.ChangeBears2
import Derived.MakeChecks
namespace Go.Proofs.YtkmpkebaloejhaaDoor.Av
open Go
end Go.Proofs.YtkmpkebaloejhaaDoor.Av
