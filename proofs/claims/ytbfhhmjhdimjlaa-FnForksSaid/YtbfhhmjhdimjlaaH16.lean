/-
  Samples: what the program computes, in plain words, and the laws of the estimate.
-/
import Derived.Test.YtbfhhmjhdimjlaaH13
set_option linter.all false
namespace Go.V
end Go.V