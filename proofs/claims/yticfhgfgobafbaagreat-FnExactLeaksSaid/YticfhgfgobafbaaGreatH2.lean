/-
  What the program's functions on forks compute, in plain words.
-/import Derived.Test.YticfhgfgobafbaaGreatH1
set_option linter.all false
namespace Go.V
theorem quo64 {a n : Int} (h0 : 0 <= a) (h1 : a <= 9223372036854775807) (hn : 0 < n) : arI .quo .i64 a n = a / n := by
 show IntKind.wrap .i64 (a.tdiv n) = _
 rw [Int.tdiv_eq_ediv_of_nonneg h0]
 have h2 : 0 <= a / n := Int.ediv_nonneg h0 (by omega)
 have h3 : a / n <= a := Int.ediv_le_self _ h0
 exact IntWalk.i64_in _ (by omega)
theorem rem64 {a n : Int} (h0 : 0 <= a) : arI .rem .i64 a n = a % n := Int.tmod_eq_emod_of_nonneg h0
theorem ag_eq {a b a' b' : Int} (h : a = a') (h' : b = b') : [DV.agg [.v (.int .i64 a), .v (.int .i64 b)]] = [DV.agg [.v (.int .i64 a'), .v (.int .i64 b')]] := by rw [h, h']
theorem dd_eq {a b a' b' : Int} (h : a = a') (h' : b = b') : [DV.one (.v (.int .i64 a)), DV.one (.v (.int .i64 b))] = [DV.one (.v (.int .i64 a')), DV.one (.v (.int .i64 b'))] := by rw [h, h']
theorem di_eq {a b : Int} (h : a = b) : [DV.one (.v (.int .i64 a))] = [DV.one (.v (.int .i64 b))] := by rw [h]
def peM (es : List (List L)) (p : Int) : Int := if 0 <= p /\ p < es.length then giI es p 0 else 0
def peF (es : List (List L)) (p : Int) : Int := if 0 <= p /\ p < es.length then giI es p 1 else 0
theorem pe_yes {es : List (List L)} {p : Int} (h : 0 <= p /\ p < es.length) : peM es p = giI es p 0 /\ peF es p = giI es p 1 := by unfold peM peF; rw [if_pos h, if_pos h]; exact ⟨rfl, rfl⟩
theorem pe_no {es : List (List L)} {p : Int} (h : ¬ (0 <= p /\ p < es.length)) : peM es p = 0 /\ peF es p = 0 := by unfold peM peF; rw [if_neg h, if_neg h]; exact ⟨rfl, rfl⟩
end Go.V