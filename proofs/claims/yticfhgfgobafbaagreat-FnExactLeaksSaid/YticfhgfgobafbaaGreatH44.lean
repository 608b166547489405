/-
  Is an address in any cache?
-/import Derived.Test.YticfhgfgobafbaaGreatH43
set_option linter.all false
namespace Go.V
def isLk (cs : List (List L)) (a : Int) (j : Int) : Bool := chB (gsI cs j 0) a
def lkI (cs : List (List L)) (a : Int) : Int := firstI (isLk cs a) cs.length
def lkB (cs : List (List L)) (a : Int) : Bool := decide (0 <= lkI cs a)
structure NsC (cs : List (List L)) : Prop where
 w : Rw [.sl [.sl [tI]]] cs
 l : cs.length <= 1099511627776
 n : ∀ i : Int, 0 <= i -> i < cs.length -> NsL (gsI cs i 0)
end Go.V