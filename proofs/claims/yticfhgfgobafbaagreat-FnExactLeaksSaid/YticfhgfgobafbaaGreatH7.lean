/-
  What taking a frame and storing into a fork compute, in plain words.
-/import Derived.Test.YticfhgfgobafbaaGreatH6
set_option linter.all false
namespace Go.V
end Go.V