/-
  What the program's functions on forks compute, in plain words.
-/
import Derived.Test.YtbdgkoalfnehoaaGreatH1

set_option linter.all false
namespace Go.V

theorem len_pos {a : List (List L)} {f : Int} : cmpI .gtr (pagesOn a f).length 0 = mapsB a f := b_iff (by rw [mapsB_t]; simp only [SS]; omega)
theorem ag_eq {a b a' b' : Int} (h : a = a') (h' : b = b') : [DV.agg [.v (.int .i64 a), .v (.int .i64 b)]] = [DV.agg [.v (.int .i64 a'), .v (.int .i64 b')]] := by rw [h, h']
/-- The entry of a page. -/
def peM (es : List (List L)) (p : Int) : Int := if 0 ≤ p ∧ p < es.length then giI es p 0 else 0
def peF (es : List (List L)) (p : Int) : Int := if 0 ≤ p ∧ p < es.length then giI es p 1 else 0
theorem pe_yes {es : List (List L)} {p : Int} (h : 0 ≤ p ∧ p < es.length) : peM es p = giI es p 0 ∧ peF es p = giI es p 1 := by unfold peM peF; rw [if_pos h, if_pos h]; exact ⟨rfl, rfl⟩
theorem pe_no {es : List (List L)} {p : Int} (h : ¬ (0 ≤ p ∧ p < es.length)) : peM es p = 0 ∧ peF es p = 0 := by unfold peM peF; rw [if_neg h, if_neg h]; exact ⟨rfl, rfl⟩
end Go.V
