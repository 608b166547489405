/-
  Row 35: the trimmed heaps, 17 to 46 cells.
-/
import Derived.Test.YtcbcfelbafccpaaGreatXHC
set_option linter.all false
open Go
open List renaming range->Ze
namespace Go.V
set_option maxRecDepth 100000
set_option maxHeartbeats 40000000
def O1:((Ze 10).all fun i=>p35 ((17+i:Nat):Int))=true:=by decide+kernel
def O2:((Ze 10).all fun i=>p35 ((27+i:Nat):Int))=true:=by decide+kernel
def O3:((Ze 10).all fun i=>p35 ((37+i:Nat):Int))=true:=by decide+kernel
end Go.V