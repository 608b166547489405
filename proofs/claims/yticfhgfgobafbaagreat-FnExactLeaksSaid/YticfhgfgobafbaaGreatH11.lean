/-
  What the functions on slots and on spans to mesh compute, in plain words.
-/import Derived.Test.YticfhgfgobafbaaGreatH10
set_option linter.all false
namespace Go.V
def slB (b i : Int) : Bool := decide (0 <= b) && inR i 0 15
def hsB (b i : Int) : Bool := slB b i && decide (arI .and .i64 (shI .shr .i64 b i) 1 = 1)
theorem sl_t {b i : Int} : slB b i = true ↔ 0 <= b /\ 0 <= i /\ i <= 15 := by simp [slB, inR]
theorem hs_no {b i : Int} (h : slB b i = false) : hsB b i = false := by unfold hsB; rw [h]; rfl
theorem hs_yes {b i : Int} (h : slB b i = true) (q : arI .and .i64 (shI .shr .i64 b i) 1 = 1) : hsB b i = true := by unfold hsB; rw [h, decide_eq_true q]; rfl
theorem hs_not {b i : Int} (q : arI .and .i64 (shI .shr .i64 b i) 1 ≠ 1) : hsB b i = false := by unfold hsB; rw [decide_eq_false q]; simp
theorem wr_small {i : Int} (h0 : 0 <= i) (h1 : i <= 15) : wrI .u64 i = i := by
 show IntKind.wrap .u64 i = i
 simp only [IntKind.wrap, IntKind.bits, IntKind.signed, Bool.false_and]
 rw [if_neg (by simp)]; omega
end Go.V