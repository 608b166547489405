/-
  Samples: the steps of the program.
-/
import Derived.Test.YtbfhhmjhdimjlaaH18
import Derived.Test.YtbfhhmjhdimjlaaH8
set_option linter.all false
namespace Go.V
def bgB (cs : List (List L)) : Bool := decide ((cs.length : Int) > 1048576)
end Go.V