/-
  Is an address in the quarantine?
-/import Derived.Test.YticfhgfgobafbaaGreatH39
set_option linter.all false
namespace Go.V
def isQt (qs : List (List L)) (a : Int) (j : Int) : Bool := eqB (giI qs j 0) a
def qtI (qs : List (List L)) (a : Int) : Int := firstI (isQt qs a) qs.length
def qtB (qs : List (List L)) (a : Int) : Bool := decide (0 <= qtI qs a)
end Go.V