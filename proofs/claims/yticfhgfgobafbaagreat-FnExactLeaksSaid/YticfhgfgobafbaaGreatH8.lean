/-
  What the functions of the reference heap compute, in plain words.
-/import Derived.Test.YticfhgfgobafbaaGreatH7
set_option linter.all false
namespace Go.V
def firstI (p : Int -> Bool) (n : Nat) : Int := match (List.range n).find? (fun j : Nat => p (j : Int)) with
 | some j => (j : Int)
 | none => -1
def notB (p : Int -> Bool) (j : Int) : Bool := !p j
theorem notB_f {p : Int -> Bool} {i : Int} (h : p i = false) : notB p i = true := by unfold notB; rw [h]; rfl
theorem first_at {p : Int -> Bool} {n : Nat} {i : Int} (h : upto (notB p) i) (h0 : 0 <= i) (h1 : i < n) (h2 : p i = true) : firstI p n = i := by
 have e : ((i.toNat : Nat) : Int) = i := Int.toNat_of_nonneg h0
 have : (List.range n).find? (fun j : Nat => p (j : Int)) = some i.toNat := by
  rw [List.find?_range_eq_some]
  refine ⟨by rw [e]; exact h2, List.mem_range.2 (by omega), fun j hj => ?_⟩
  exact h j (by omega) (by omega)
 unfold firstI; rw [this]; exact e
theorem first_no {p : Int -> Bool} {n : Nat} {i : Int} (h : upto (notB p) i) (h1 : (n : Int) <= i) : firstI p n = -1 := by
 have : (List.range n).find? (fun j : Nat => p (j : Int)) = none := by
  rw [List.find?_range_eq_none]
  intro j hj
  exact h j (by omega) (by omega)
 unfold firstI; rw [this]
theorem first_bd {p : Int -> Bool} {n : Nat} : firstI p n = -1 \/ 0 <= firstI p n /\ firstI p n < n := by
 unfold firstI
 split
 ·rename_i j h
  rw [List.find?_range_eq_some] at h
  have := List.mem_range.1 h.2.1
  omega
 ·exact .inl rfl
def eqB (a b : Int) : Bool := decide (a = b)
theorem eqB_t {a b : Int} (h : a = b) : eqB a b = true := decide_eq_true h
theorem eqB_f {a b : Int} (h : a ≠ b) : eqB a b = false := decide_eq_false h
theorem cnt1 {a : List (List L)} : cntRs [a] = cntE a := cntRs_one
end Go.V