/-
  What the guards are and what setting them computes, in plain words.
-/
import Derived.Test.YtbdgkoalfnehoaaGreatH5

set_option linter.all false
namespace Go.V

end Go.V
