/-
  What the functions of the reference heap compute, in plain words.
-/
import Derived.Test.YtbdgkoalfnehoaaGreatH7

set_option linter.all false
namespace Go.V

/-! ### A new object -/
/-! ### A store -/
end Go.V
