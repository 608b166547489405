/-
  The laws of the samples.
-/
import Derived.Test.YtbfhhmjhdimjlaaH19
set_option linter.all false
namespace Go.V
theorem bg_no {cs : List (List L)} (h : bgB cs = false) : cs.length <= 1048576 := by
 unfold bgB at h; simp only [decide_eq_false_iff_not] at h; omega
theorem pi_at {w : Nat} {l : List (List L)} {i : Int} {j : Nat} (h0 : 0 <= i) : piI (.s w l) [(i.toNat, j)] = giI l i j := by
 rw [pi_one]; unfold giI; rw [Int.toNat_natCast]
theorem dbt {a : Bool} (h : a = true) : [DV.one (.v (.bool a))] = [DV.one (.v (.bool true))] := by rw [h]
end Go.V