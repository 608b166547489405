/-
  What the functions on spans and pages compute, in plain words.
-/
import Derived.Test.YtbdgkoalfnehoaaGreatH9

set_option linter.all false
namespace Go.V

/-! ### Bits -/
/-! ### Pages of a frame -/
def fpg (es : List (List L)) (p : Int) : List (List L) := if peM es p = 0 then [] else pagesOn es (peF es p)
theorem fpg_no {es : List (List L)} {p : Int} (h : peM es p = 0) : fpg es p = [] := by unfold fpg; rw [if_pos h]
theorem fpg_yes {es : List (List L)} {p : Int} (h : peM es p ≠ 0) : fpg es p = pagesOn es (peF es p) := by unfold fpg; rw [if_neg h]
/-! ### Bits in use -/
end Go.V
