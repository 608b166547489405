/-
  What the guards are and what setting them computes, in plain words.
-/import Derived.Test.YticfhgfgobafbaaGreatH5
set_option linter.all false
namespace Go.V
theorem pi_row {l : List (List L)} {i : Int} (h0 : 0 <= i) : piI (.s 1 l) [(i.toNat, 0)] = giI l i 0 := by
 rw [pi_one]; unfold giI; rw [Int.toNat_natCast]
end Go.V