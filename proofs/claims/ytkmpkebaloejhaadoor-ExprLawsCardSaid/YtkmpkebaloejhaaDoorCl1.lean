/- Closed runs: the evaluator calls itself for the functions of a table;slices.Clone. Conditions: none. -/
import Derived.Test.YtkmpkebaloejhaaDoorGen0
namespace Go.Proofs.YtkmpkebaloejhaaDoor.Av
open Go
end Go.Proofs.YtkmpkebaloejhaaDoor.Av
