/-
  What RefFree computes, in plain words.
-/
import Derived.Test.YtbfhhmjhdimjlaaH22

set_option linter.all false
namespace Go.V

def rdB (os : List (List L)) (id : Int) : Bool := decide (0 ≤ rfI os id)
def delO (os : List (List L)) (i : Int) : List (List L) := os.take i.toNat ++ os.drop (i + 1).toNat
def rdO (os : List (List L)) (id : Int) : List (List L) := if 0 ≤ rfI os id then delO os (rfI os id) else os
theorem rd_no {os : List (List L)} {id : Int} (h : rfI os id < 0) : rdO os id = os ∧ rdB os id = false := by
  unfold rdO rdB; rw [if_neg (by omega)]; exact ⟨rfl, decide_eq_false (by omega)⟩
theorem rd_yes {os : List (List L)} {id : Int} (h : 0 ≤ rfI os id) : rdO os id = delO os (rfI os id) ∧ rdB os id = true := by
  unfold rdO rdB; rw [if_pos h]; exact ⟨rfl, decide_eq_true h⟩
theorem cntE_app {a b : List (List L)} : cntE (a ++ b) = cntE a + cntE b := by unfold cntE; rw [cntEs_append, List.length_append]; omega
theorem rd_wf {os : List (List L)} {id : Int} (h : Rw tO os) (hc : cntRs [os] ≤ 1048576) : Rw tO (rdO os id) ∧ cntRs [rdO os id] ≤ 1099511627776 := by
  rw [cnt1] at hc ⊢
  unfold rdO; split
  · unfold delO
    refine ⟨⟨?_, fun e he => ?_⟩, ?_⟩
    · rw [List.length_append, List.length_take, List.length_drop]
      have := h.1
      have hb := rf_bd (os := os) (id := id)
      omega
    · rcases List.mem_append.1 he with q | q
      · exact h.2 e (List.mem_of_mem_take q)
      · exact h.2 e (List.mem_of_mem_drop q)
    · have e1 : cntE os = cntE (os.take (rfI os id).toNat) + cntE (os.drop (rfI os id).toNat) := by rw [← cntE_app, List.take_append_drop]
      have e2 : cntE (os.drop (rfI os id).toNat) = cntE ((os.drop (rfI os id).toNat).take 1) + cntE (os.drop (rfI os id + 1).toNat) := by
        rw [← cntE_app, show os.drop (rfI os id + 1).toNat = (os.drop (rfI os id).toNat).drop 1 from by rw [List.drop_drop]; congr 1; omega, List.take_append_drop]
      rw [cntE_app]; omega
  · exact ⟨h, by omega⟩
/-- A list of which the first i entries were taken out. -/
def gpO (os : List (List L)) (i : Int) : List (List L) := subI os 0 (Int.toNat 0) ++ (repI ((dfI i 0 : Nat) : Int) [.g, .g] ++ subI os (adI (Int.toNat 0) ((dfI i 0 : Nat) : Int)) os.length)
theorem gp_eq {os : List (List L)} {i : Int} : gpO os i = List.replicate i.toNat [.g, .g] ++ os.drop i.toNat := by
  show (os.drop 0).take 0 ++ (List.replicate (((i.toNat - 0 : Nat) : Int)).toNat [L.g, L.g] ++ (os.drop (0 + (((i.toNat - 0 : Nat) : Int)).toNat)).take os.length) = _
  rw [List.take_zero, List.nil_append, Int.toNat_natCast, Nat.sub_zero, Nat.zero_add, List.take_of_length_le (by rw [List.length_drop]; omega)]
theorem gp_len {os : List (List L)} {i : Int} (h0 : 0 ≤ i) (h1 : i ≤ os.length) : (gpO os i).length = os.length := by
  rw [gp_eq, List.length_append, List.length_replicate, List.length_drop]; omega
theorem gp_sub {os : List (List L)} {i : Int} (h0 : 0 ≤ i) (h1 : i < os.length) : [] ++ subI os (Int.toNat 0) (dfI i 0) ++ subI (gpO os i) (i + 1).toNat (dfI ((gpO os i).length : Int) (i + 1)) = delO os i := by
  have e1 : subI os (Int.toNat 0) (dfI i 0) = os.take i.toNat := by
    show (os.drop 0).take (i.toNat - 0) = _
    rw [List.drop_zero, Nat.sub_zero]
  have e2 : subI (gpO os i) (i + 1).toNat (dfI ((gpO os i).length : Int) (i + 1)) = os.drop (i + 1).toNat := by
    show ((gpO os i).drop (i + 1).toNat).take ((((gpO os i).length : Int)).toNat - (i + 1).toNat) = _
    rw [List.take_of_length_le (by rw [List.length_drop, Int.toNat_natCast]; exact Nat.le_refl _), gp_eq, show (i + 1).toNat = (List.replicate i.toNat [L.g, L.g]).length + 1 from by rw [List.length_replicate]; omega, List.drop_append, List.drop_of_length_le (by omega), List.nil_append, List.drop_drop]
    congr 1; rw [List.length_replicate]; omega
  rw [e1, e2]; rfl
end Go.V
