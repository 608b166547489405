/-
  What the functions of the reference heap compute, in plain words.
-/
import Derived.Test.YtbfhhmjhdimjlaaH7
set_option linter.all false
namespace Go.V
end Go.V