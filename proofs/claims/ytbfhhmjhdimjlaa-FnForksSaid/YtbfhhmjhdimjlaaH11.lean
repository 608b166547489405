/-
  What the functions on slots and on spans to mesh compute, in plain words.
-/
import Derived.Test.YtbfhhmjhdimjlaaH10
set_option linter.all false
namespace Go.V
end Go.V