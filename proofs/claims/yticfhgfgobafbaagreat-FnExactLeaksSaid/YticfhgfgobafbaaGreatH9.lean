/-
  What the functions that read a heap compute, in plain words.
-/import Derived.Test.YticfhgfgobafbaaGreatH8
set_option linter.all false
namespace Go.V
def isOb (os : List (List L)) (a : Int) (j : Int) : Bool := eqB (giI os j 1) a
def obI (os : List (List L)) (a : Int) : Int := firstI (isOb os a) os.length
def isSp (ss : List (List L)) (p : Int) (j : Int) : Bool := eqB (giI ss j 0) p
def spI (ss : List (List L)) (p : Int) : Int := firstI (isSp ss p) ss.length
end Go.V