/-
  What RefFree computes, in plain words.
-/
import Derived.Test.YtbfhhmjhdimjlaaH22

set_option linter.all false
namespace Go.V

def rdB (os : List (List L)) (id : Int) : Bool := decide (0 ≤ rfI os id)
def delO (os : List (List L)) (i : Int) : List (List L) := os.take i.toNat ++ os.drop (i + 1).toNat
def rdO (os : List (List L)) (id : Int) : List (List L) := if 0 ≤ rfI os id then delO os (rfI os id) else os
theorem rd_no {os : List (List L)} {id : Int} (h : rfI os id < 0) : rdO os id = os ∧ rdB os id = false := by
  unfold rdO rdB; rw [if_neg (by omega)]; exact ⟨rfl, decide_eq_false (by omega)⟩
theorem rd_yes {os : List (List L)} {id : Int} (h : 0 ≤ rfI os id) : rdO os id = delO os (rfI os id) ∧ rdB os id = true := by
  unfold rdO rdB; rw [if_pos h]; exact ⟨rfl, decide_eq_true h⟩
theorem cntE_app {a b : List (List L)} : cntE (a ++ b) = cntE a + cntE b := by unfold cntE; rw [cntEs_append, List.length_append]; omega
theorem rd_wf {os : List (List L)} {id : Int} (h : Rw tO os) (hc : cntRs [os] ≤ 1048576) : Rw tO (rdO os id) ∧ cntRs [rdO os id] ≤ 1099511627776 := by
  rw [cnt1] at hc ⊢
  unfold rdO; split
  · unfold delO
    refine ⟨⟨?_, fun e he => ?_⟩, ?_⟩
    · rw [List.length_append, List.length_take, List.length_drop]
      have := h.1
      have hb := rf_bd (os := os) (id := id)
      omega
    · rcases List.mem_append.1 he with q | q
      · exact h.2 e (List.mem_of_mem_take q)
      · exact h.2 e (List.mem_of_mem_drop q)
    · have e1 : cntE os = cntE (os.take (rfI os id).toNat) + cntE (os.drop (rfI os id).toNat) := by rw [← cntE_app, List.take_append_drop]
      have e2 : cntE (os.drop (rfI os id).toNat) = cntE ((os.drop (rfI os id).toNat).take 1) + cntE (os.drop (rfI os id + 1).toNat) := by
        rw [← cntE_app, show os.drop (rfI os id + 1).toNat = (os.drop (rfI os id).toNat).drop 1 from by rw [List.drop_drop]; congr 1; omega, List.take_append_drop]
      rw [cntE_app]; omega
  · exact ⟨h, by omega⟩
end Go.V
