/-
  Row 35: the trimmed heaps, 47 to 61 cells.
-/
import Derived.Test.YtcbcfelbafccpaaGreatXHC
set_option linter.all false
open Go
open List renaming range->Ze
namespace Go.V
set_option maxRecDepth 100000
set_option maxHeartbeats 40000000
def O4:((Ze 5).all fun i=>p35 ((47+i:Nat):Int))=true:=by decide+kernel
def O5:((Ze 5).all fun i=>p35 ((52+i:Nat):Int))=true:=by decide+kernel
def O6:((Ze 5).all fun i=>p35 ((57+i:Nat):Int))=true:=by decide+kernel
end Go.V