/-
  What the constructors of a heap compute, in plain words.
-/import Derived.Test.YticfhgfgobafbaaGreatH11
set_option linter.all false
namespace Go.V
end Go.V