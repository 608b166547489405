/-
  Rows of rows that are copied.
-/import Derived.Test.YticfhgfgobafbaaGreatH2
set_option linter.all false
namespace Go.V
theorem len_cnt {es : List (List L)} : es.length <= cntE es := Nat.le_add_right _ _
def mkAll : List (List (List L)) -> Int -> List (List (List L))
 | [], _ => []
 | r :: rs, k => mkN0 r k :: mkAll rs (kN0 [r] k)
theorem kN_mkAll : ∀ {rs : List (List (List L))} {k k' : Int}, kN0 (mkAll rs k) k' = kN0 rs k'
 | [], _, _ => rfl
 | r :: rs, k, k' => by
   show kN0 (mkAll rs (kN0 [r] k)) (msEs (msEs r k).1 k').2 = kN0 rs (msEs r k').2
   rw [msEs_mk]; exact kN_mkAll
theorem marksAll {rs : List (List (List L))} (h : ∀ r ∈ rs, (msEs r 0).2 <= (64 * cntE r : Nat)) (hc : cntRs rs <= 1099511627776) : kN0 rs 1 <= 1152921504606846976 := kN_small h (by omega) hc
theorem cnt_mem : ∀ {rs : List (List (List L))} {r : List (List L)} {n : Nat}, cntRs rs <= n -> r ∈ rs -> cntE r <= n
 | a :: rs, r, n, h, hr => by
   simp only [cntRs] at h
   rcases List.mem_cons.1 hr with rfl | q
   ·omega
   ·exact cnt_mem (rs := rs) (by omega) q
end Go.V