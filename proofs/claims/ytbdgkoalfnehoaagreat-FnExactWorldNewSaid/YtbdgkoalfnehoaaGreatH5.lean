/-
  What a store into a machine computes, in plain words.
-/
import Derived.Test.YtbdgkoalfnehoaaGreatH4

set_option linter.all false
namespace Go.V

end Go.V
