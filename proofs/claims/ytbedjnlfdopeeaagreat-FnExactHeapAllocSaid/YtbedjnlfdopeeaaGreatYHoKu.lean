/- Contracts. -/
import Derived.Test.YtbedjnlfdopeeaaGreatYW5
import Derived.Test.YtbedjnlfdopeeaaGreatYM3
set_option linter.all false
namespace Go.V
open Go Go.Proofs
set_option maxRecDepth 1000000
set_option maxHeartbeats 8000000
end Go.V