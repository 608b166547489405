/-
  What the functions on spans and pages compute, in plain words.
-/
import Derived.Test.YtbfhhmjhdimjlaaH9
set_option linter.all false
namespace Go.V
end Go.V