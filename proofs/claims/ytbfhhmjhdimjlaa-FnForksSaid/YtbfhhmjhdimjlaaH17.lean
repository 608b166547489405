/-
  Drawn sizes, in plain words.
-/
import Derived.Test.YtbfhhmjhdimjlaaH16
set_option linter.all false
namespace Go.V
end Go.V