/-
  What taking a frame and storing into a fork compute, in plain words.
-/
import Derived.Test.YtbdgkoalfnehoaaGreatH6

set_option linter.all false
namespace Go.V

/-! ### Rows of rows -/
end Go.V
