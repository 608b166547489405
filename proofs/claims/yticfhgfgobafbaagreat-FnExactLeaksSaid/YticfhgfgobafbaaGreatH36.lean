/-
  The addresses in use, in order.
-/import Derived.Test.YticfhgfgobafbaaGreatH35
set_option linter.all false
namespace Go.V
def lvB (sp lg : List (List L)) (a : Int) : Bool := decide (dzO sp lg a = 0) && (decide (dzK sp lg a = 1) || decide (dzK sp lg a = 3))
def laN (sp lg : List (List L)) : Nat -> List (List L)
 | 0 => []
 | n + 1 => laN sp lg n ++ (if lvB sp lg n then [[.v (.int .i64 n)]] else [])
def laL (sp lg : List (List L)) : List (List L) := if layOk sp lg then laN sp lg 512 else []
structure LaP (sp lg : List (List L)) (i : Int) (o : List (List L)) : Prop where
 e : o = laN sp lg i.toNat
 l : o.length <= i.toNat
 y : 0 < i -> layOk sp lg = true
theorem la_0 {sp lg : List (List L)} : LaP sp lg 0 [] := ⟨rfl, Nat.le_refl _, fun h => absurd h (by omega)⟩
theorem laN_up {sp lg : List (List L)} {i : Int} (h : 0 <= i) : laN sp lg (i + 1).toNat = laN sp lg i.toNat ++ (if lvB sp lg i then [[.v (.int .i64 i)]] else []) := by
 rw [show (i + 1).toNat = i.toNat + 1 from by omega, laN, Int.toNat_of_nonneg h]
theorem la_yes {sp lg o : List (List L)} {i : Int} (h : LaP sp lg i o) (h0 : 0 <= i) (hl : layOk sp lg = true) (hv : lvB sp lg i = true) : LaP sp lg (i + 1) (o ++ [[.v (.int .i64 i)]]) := by
 have e := h.e; have l := h.l
 refine ⟨by rw [laN_up h0, if_pos hv, <- e], ?_, fun _ => hl⟩
 rw [List.length_append, List.length_cons, List.length_nil]; omega
theorem la_no {sp lg o : List (List L)} {i : Int} (h : LaP sp lg i o) (h0 : 0 <= i) (hl : layOk sp lg = true) (hv : lvB sp lg i = false) : LaP sp lg (i + 1) o := by
 have e := h.e; have l := h.l
 refine ⟨by rw [laN_up h0, hv, <- e]; simp, ?_, fun _ => hl⟩
 omega
theorem la_end {sp lg o : List (List L)} {i : Int} (h : LaP sp lg i o) (h1 : i <= 512) (h2 : 512 <= i) : o = laL sp lg := by
 have e : i = 512 := by omega
 subst e
 unfold laL; rw [if_pos (h.y (by omega))]; exact h.e
theorem la_bad {sp lg o : List (List L)} {i : Int} (h : LaP sp lg i o) (h0 : 0 <= i) (hl : layOk sp lg = false) : o = laL sp lg := by
 have z : i = 0 := by
  by_cases c : 0 < i
  ·have := h.y c; rw [hl] at this; cases this
  ·omega
 subst z
 unfold laL; rw [hl]; exact h.e
theorem lv_t1 {sp lg : List (List L)} {a : Int} (h : dzO sp lg a = 0) (k : dzK sp lg a = 1) : lvB sp lg a = true := by unfold lvB; rw [h, k]; rfl
theorem lv_t3 {sp lg : List (List L)} {a : Int} (h : dzO sp lg a = 0) (k : dzK sp lg a = 3) : lvB sp lg a = true := by unfold lvB; rw [h, k]; rfl
theorem lv_f1 {sp lg : List (List L)} {a : Int} (h : dzO sp lg a ≠ 0) : lvB sp lg a = false := by unfold lvB; rw [decide_eq_false h]; rfl
theorem lv_f2 {sp lg : List (List L)} {a : Int} (h : dzK sp lg a ≠ 1) (k : dzK sp lg a ≠ 3) : lvB sp lg a = false := by unfold lvB; rw [decide_eq_false h, decide_eq_false k, Bool.or_false, Bool.and_false]
theorem rw1_eq {a b : List (List L)} (h : a = b) : [DV.one (.s 1 a)] = [DV.one (.s 1 b)] := by rw [h]
end Go.V