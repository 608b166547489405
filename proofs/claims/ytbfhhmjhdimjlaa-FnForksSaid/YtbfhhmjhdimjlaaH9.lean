/-
  What the functions that read a heap compute, in plain words.
-/
import Derived.Test.YtbfhhmjhdimjlaaH8
set_option linter.all false
namespace Go.V
end Go.V