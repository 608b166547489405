/-
  Row 35: the trimmed heaps, 62 to 71 cells.
-/
import Derived.Test.YtcbcfelbafccpaaGreatXHC
set_option linter.all false
open Go
open List renaming range->Ze
namespace Go.V
set_option maxRecDepth 100000
set_option maxHeartbeats 40000000
def O7:((Ze 5).all fun i=>p35 ((62+i:Nat):Int))=true:=by decide+kernel
def O8:((Ze 5).all fun i=>p35 ((67+i:Nat):Int))=true:=by decide+kernel
end Go.V