/-
  What the functions on spans and pages compute, in plain words.
-/import Derived.Test.YticfhgfgobafbaaGreatH9
set_option linter.all false
namespace Go.V
def fpg (es : List (List L)) (p : Int) : List (List L) := if peM es p = 0 then [] else pagesOn es (peF es p)
theorem fpg_no {es : List (List L)} {p : Int} (h : peM es p = 0) : fpg es p = [] := by unfold fpg; rw [if_pos h]
theorem fpg_yes {es : List (List L)} {p : Int} (h : peM es p ≠ 0) : fpg es p = pagesOn es (peF es p) := by unfold fpg; rw [if_neg h]
def isX (l : List (List L)) (x : Int) (j : Int) : Bool := eqB x (giI l j 0)
def idxI (l : List (List L)) (x : Int) : Int := firstI (isX l x) l.length
def hasB (l : List (List L)) (x : Int) : Bool := decide (0 <= idxI l x)
theorem has_t {l : List (List L)} {x : Int} : hasB l x = true ↔ ∃ k : Nat, k < l.length /\ giI l k 0 = x := by
 unfold hasB idxI
 rw [decide_eq_true_eq]
 constructor
 ·intro h
  unfold firstI at h
  split at h
  ·rename_i j hj
   rw [List.find?_range_eq_some] at hj
   refine ⟨j, List.mem_range.1 hj.2.1, ?_⟩
   have := hj.1
   unfold isX eqB at this
   exact (of_decide_eq_true this).symm
  ·omega
 ·rintro ⟨k, hk, e⟩
  rcases first_bd (p := isX l x) (n := l.length) with q | q
  ·exfalso
   unfold firstI at q
   split at q
   ·omega
   ·rename_i hn
    rw [List.find?_range_eq_none] at hn
    have := hn k hk
    unfold isX eqB at this
    rw [e] at this; simp at this
  ·exact q.1
end Go.V