/- Contracts. -/
import Derived.Test.YtpldpilhgjpkjaaGreatW5
import Derived.Test.YtpldpilhgjpkjaaGreatM3
set_option linter.all false
namespace Go.V
open Go Go.Proofs
set_option maxRecDepth 1000000
set_option maxHeartbeats 8000000
end Go.V