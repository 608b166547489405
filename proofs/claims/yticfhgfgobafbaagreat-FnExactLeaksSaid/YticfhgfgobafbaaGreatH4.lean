/-
  What giving up a side of a fork computes, in plain words.
-/import Derived.Test.YticfhgfgobafbaaGreatH3
set_option linter.all false
namespace Go.V
end Go.V