/- Contracts. -/
import Derived.Test.YtniaaknbbceigaaGreatS10
set_option linter.all false
namespace Go.V
open Go Go.Proofs
set_option maxRecDepth 1000000
set_option maxHeartbeats 8000000
theorem nX {a0 a1 a2 a3 a4 a5 a6 a7:Int}{d:DV}(hp:d=.agg [.i a0,.i a1,.i a2,.i a3,.i a4,.i a5,.i a6,.i a7]):ap 28 [.agg [.i a0,.i a1,.i a2,.i a3,.i a4,.i a5,.i a6,.i a7],d] [.k true]:=by
 subst hp;refine cb nB Tryz.func28 ?_
 exact mh
end Go.V