/-
  Row 35: the trimmed heaps, 72 to 76 cells.
-/
import Derived.Test.YtcbcfelbafccpaaGreatXHC
set_option linter.all false
namespace Go.V
set_option maxRecDepth 100000
set_option maxHeartbeats 40000000
def O9:((List.range 5).all fun i=>p35 ((72+i:Nat):Int))=true:=by decide+kernel
end Go.V