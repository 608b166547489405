/-
  Is an address in a cache?
-/import Derived.Test.YticfhgfgobafbaaGreatH40
set_option linter.all false
namespace Go.V
def isCh (ls : List (List L)) (a : Int) (j : Int) : Bool := hasB (gsI ls j 0) a
def chI (ls : List (List L)) (a : Int) : Int := firstI (isCh ls a) ls.length
def chB (ls : List (List L)) (a : Int) : Bool := decide (0 <= chI ls a)
structure NsL (ls : List (List L)) : Prop where
 w : Rw [.sl [tI]] ls
 l : ls.length <= 1099511627776
 n : ∀ i : Int, (gsI ls i 0).length <= 1099511627776
theorem NsL.el {ls : List (List L)} (h : NsL ls) {i : Int} (h0 : 0 <= i) (h1 : i < ls.length) : Rw [tI] (gsI ls i 0) /\ (gsI ls i 0).length <= 1099511627776 :=
 ⟨Rw.sub (fs := [.sl [tI]]) h.w (by omega) rfl, h.n i⟩
end Go.V