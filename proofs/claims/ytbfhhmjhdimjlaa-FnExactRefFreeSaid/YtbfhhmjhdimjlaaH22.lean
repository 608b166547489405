/-
  What RefTrim and RefFree compute, in plain words.
-/
import Derived.Test.YtbfhhmjhdimjlaaH8

set_option linter.all false
namespace Go.V

def rtB (os : List (List L)) (id sz : Int) : Bool := decide (0 ≤ rfI os id) && inR sz 1 (gsI os (rfI os id) 1).length
def rtO (os : List (List L)) (id sz : Int) : List (List L) := if rtB os id sz = true then os.set (rfI os id).toNat [.v (.int .i64 (giI os (rfI os id) 0)), .s 1 ((gsI os (rfI os id) 1).take sz.toNat)] else os
theorem rt_no {os : List (List L)} {id sz : Int} (h : ¬ (0 ≤ rfI os id ∧ inR sz 1 (gsI os (rfI os id) 1).length = true)) : rtO os id sz = os ∧ rtB os id sz = false := by
  have : rtB os id sz = false := by
    cases q : rtB os id sz
    · rfl
    · unfold rtB at q; simp only [Bool.and_eq_true, decide_eq_true_eq] at q; exact absurd ⟨q.1, q.2⟩ h
  unfold rtO; rw [this]; exact ⟨rfl, rfl⟩
theorem rt_yes {os : List (List L)} {id sz : Int} (h0 : 0 ≤ rfI os id) (h1 : inR sz 1 (gsI os (rfI os id) 1).length = true) : rtO os id sz = os.set (rfI os id).toNat [.v (.int .i64 (giI os (rfI os id) 0)), .s 1 ((gsI os (rfI os id) 1).take sz.toNat)] ∧ rtB os id sz = true := by
  have : rtB os id sz = true := by unfold rtB; rw [decide_eq_true h0, h1]; rfl
  unfold rtO; rw [this]; exact ⟨rfl, rfl⟩
theorem rt_wf {os : List (List L)} {id sz : Int} (h : Rw tO os) (hc : cntRs [os] ≤ 1048576) : Rw tO (rtO os id sz) ∧ cntRs [rtO os id sz] ≤ 1099511627776 := by
  rw [cnt1] at hc ⊢
  unfold rtO; split
  · rename_i q
    unfold rtB at q; simp only [Bool.and_eq_true, decide_eq_true_eq, inR_t] at q
    have hb := rf_bd (os := os) (id := id)
    have hr := obj_sub h (i := rfI os id) (by omega) (by omega)
    have hs : Rw [tI] ((gsI os (rfI os id) 1).take sz.toNat) := ⟨by rw [List.length_take]; have := hr.1; omega, fun e he => hr.2 e (List.mem_of_mem_take he)⟩
    have e1 := hr.cnt rfl
    have e2 := hs.cnt rfl
    rw [List.length_take] at e2
    have e3 := obj_cnt h (i := rfI os id) (by omega) (by omega)
    have h2 := cntE_set (es := os) (n := (rfI os id).toNat) (e := [.v (.int .i64 (giI os (rfI os id) 0)), .s 1 ((gsI os (rfI os id) 1).take sz.toNat)])
    have h4 : cntR [.v (.int .i64 (giI os (rfI os id) 0)), .s 1 ((gsI os (rfI os id) 1).take sz.toNat)] = cntE ((gsI os (rfI os id) 1).take sz.toNat) := by simp only [cntR, cntL, cntE]; omega
    refine ⟨h.set (show confR tO [.v (.int .i64 _), .s 1 _] from ⟨⟨rfl, obj_has h (by omega) (by omega)⟩, ⟨rfl, hs⟩, trivial⟩) _, ?_⟩
    omega
  · exact ⟨h, by omega⟩
theorem up_t {os x : List (List L)} {i : Int} (h : Rw tO os) (h0 : 0 ≤ i) (h1 : i < os.length) : upI (.s 2 os) [(i.toNat, 1)] [.s 1 x] = os.set i.toNat [.v (.int .i64 (giI os i 0)), .s 1 x] := by
  show os.set i.toNat ((os.getD i.toNat []).take 1 ++ [L.s 1 x] ++ (os.getD i.toNat []).drop (1 + 1)) = _
  rw [obj_row h h0 h1]; rfl
theorem sub_t {es : List (List L)} {sz : Int} : subI es 0 (dfI sz 0) = es.take sz.toNat := by
  show (es.drop 0).take (sz.toNat - 0) = _
  rw [List.drop_zero, Nat.sub_zero]
theorem scal_tk {es : List (List L)} {m : Nat} (h : Rw [tI] es) : scalRecs (es.take m) := by
  have hs : Rw [tI] (es.take m) := ⟨by rw [List.length_take]; have := h.1; omega, fun e he => h.2 e (List.mem_of_mem_take he)⟩
  exact hs.scal rfl
end Go.V
