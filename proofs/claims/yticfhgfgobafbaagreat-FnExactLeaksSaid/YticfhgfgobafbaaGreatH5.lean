/-
  What a store into a machine computes, in plain words.
-/import Derived.Test.YticfhgfgobafbaaGreatH4
set_option linter.all false
namespace Go.V
def clsSz (k : Int) : Int := if k = 0 then 1 else if k = 1 then 2 else if k = 2 then 4 else if k = 3 then 8 else 0
def clsOf (s : Int) : Int := if s < 1 then -1 else if s <= 1 then 0 else if s <= 2 then 1 else if s <= 4 then 2 else if s <= 8 then 3 else -1
theorem cs_no {k : Int} (h : inR k 0 3 = false) : clsSz k = 0 := by rw [inR_f] at h; unfold clsSz; repeat' split <;> omega
theorem cs_sh {k : Int} (h : inR k 0 3 = true) : shI .shl .i64 1 k = clsSz k := by
 rw [inR_t] at h
 rcases (show k = 0 \/ k = 1 \/ k = 2 \/ k = 3 by omega) with rfl | rfl | rfl | rfl <;> decide
theorem cs_wr {k : Int} (h : inR k 0 3 = true) : wrI .u64 k = k := by
 rw [inR_t] at h
 rcases (show k = 0 \/ k = 1 \/ k = 2 \/ k = 3 by omega) with rfl | rfl | rfl | rfl <;> decide
theorem cs_up {k s : Int} (h0 : 0 <= k /\ k <= 3) (h : clsSz k < s) (hs : 1 <= s /\ s <= 8) : k + 1 <= 3 := by
 rcases (show k = 0 \/ k = 1 \/ k = 2 \/ k = 3 by omega) with rfl | rfl | rfl | rfl <;> simp [clsSz] at h <;> omega
theorem cl_no {s : Int} (h : s < 1 \/ 8 < s) : clsOf s = -1 := by unfold clsOf; repeat' split <;> omega
theorem cl_yes {k s : Int} (h0 : 0 <= k /\ k <= 3) (h : s <= clsSz k) (hs : 1 <= s /\ s <= 8) (hp : k = 0 \/ clsSz (k - 1) < s) : clsOf s = k := by
 rcases (show k = 0 \/ k = 1 \/ k = 2 \/ k = 3 by omega) with rfl | rfl | rfl | rfl <;> simp [clsSz] at h hp <;> unfold clsOf <;> repeat' split <;> omega
end Go.V