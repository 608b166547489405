/-
  A fork that is dropped right away.
-/
import Derived.Test.YtbfhhmjhdimjlaaH26

set_option linter.all false
namespace Go.V

theorem list_set_self {l : List (List L)} {n : Nat} {r : (List L)} (h : l[n]? = some r) : l.set n r = l := by
  apply List.ext_getElem?
  intro j
  rw [List.getElem?_set]
  split
  · rename_i e; subst e
    rw [h]; split
    · rfl
    · rename_i q; rw [List.getElem?_eq_none (by omega)] at h; cases h
  · rfl
theorem page_zero {r : List (List L)} (h : Rw [tI] r) (hl : r.length = 16) (hz : ∀ x : Int, 0 ≤ x → x < 16 → giI r x 0 = 0) : r = page0 := by
  apply List.ext_getElem
  · rw [hl]; rfl
  · intro j h1 h2
    have e : r.getD (j : Int).toNat [] = [L.v (.int .i64 (giI r j 0))] := h.eta (by omega) (by omega)
    rw [Int.toNat_natCast, List.getD_eq_getElem?_getD, List.getElem?_eq_getElem h1] at e
    rw [hz j (by omega) (by omega)] at e
    have e2 : page0[j]'h2 = [L.v (.int .i64 0)] := List.eq_of_mem_replicate (List.getElem_mem h2)
    rw [e2]; exact e
theorem mach_row {C U E : List (List L)} {i : Int} (hm : machOk C U E = true) (rc : Rw [.sl [tI]] C) (h0 : 0 ≤ i) (h1 : i < C.length) (hu : gbI U i 0 = false) : gsI C i 0 = page0 := by
  have f := (mc_ok hm).1
  have hl := fr_at f h0 h1
  refine page_zero (Rw.sub (fs := [.sl [tI]]) rc (by omega) rfl) hl (fun x x0 x1 => ?_)
  unfold framesOk at f
  simp only [Bool.and_eq_true] at f
  have q := allI_t.1 f.2 i h0 h1
  unfold frameOk at q
  simp only [Bool.and_eq_true] at q
  have w := allI_t.1 q.2 x x0 x1
  unfold cellOk at w
  simp only [Bool.and_eq_true, Bool.or_eq_true, hu, Bool.false_eq_true, false_or, decide_eq_true_eq] at w
  exact w.2
theorem cd_same {C U E : List (List L)} (hm : machOk C U E = true) (rc : Rw [.sl [tI]] C) (ru : Rw [tB] U) : ∀ n : Nat, n ≤ C.length → cdU U E n = U ∧ cdC C E n = C
  | 0, _ => ⟨rfl, rfl⟩
  | n + 1, hn => by
    obtain ⟨a, b⟩ := cd_same hm rc ru n (by omega)
    obtain ⟨f, t, u⟩ := mc_ok hm
    have fl := fr_len f
    have un := u n (by omega) (by omega)
    have e1 : ((n : Int) + 1).toNat = n + 1 := by omega
    cases q : mapsB E n
    · have x := cdU_no (us := U) (es := E) (i := n) (by omega) q
      have y := cdC_no (cs := C) (es := E) (i := n) (by omega) q
      rw [e1, Int.toNat_natCast] at x y
      rw [x, y, a, b]
      rw [q] at un
      constructor
      · refine list_set_self ?_
        have e : U.getD (n : Int).toNat [] = [L.v (.bool (gbI U n 0))] := ru.eta (by omega) (by omega)
        rw [Int.toNat_natCast, List.getD_eq_getElem?_getD, List.getElem?_eq_getElem (by omega), un] at e
        rw [List.getElem?_eq_getElem (by omega)]; exact congrArg some e
      · refine list_set_self ?_
        have := at_row rc (fr := n) (by omega) (by omega)
        rw [Int.toNat_natCast] at this
        rw [this, mach_row hm rc (by omega) (by omega) un]
    · have x := cdU_yes (us := U) (es := E) (i := n) (by omega) q
      have y := cdC_yes (cs := C) (es := E) (i := n) (by omega) q
      rw [e1, Int.toNat_natCast] at x y
      rw [x, y]; exact ⟨a, b⟩
def twT (E : List (List L)) : List (List L) := [[.s 2 E], [.s 2 E]]
theorem tw_0 {E : List (List L)} {j : Int} (h0 : 0 ≤ j) (h1 : j < 2) : gsI (twT E) j 0 = E := by
  have : j = 0 ∨ j = 1 := by omega
  rcases this with rfl | rfl <;> rfl
theorem cow_tw {C U E : List (List L)} (hm : machOk C U E = true) : cowOk C U (twT E) = true := by
  obtain ⟨f, t, u⟩ := mc_ok hm
  have fl := fr_len f
  refine co_yes (i := C.length) f rfl t t rfl (fun i i0 i1 => co_in ?_) (by omega)
  show gbI U i 0 = (mapsB E i || mapsB E i)
  rw [u i i0 i1, Bool.or_self]
theorem is_tw {C U E : List (List L)} {w : Int} (hm : machOk C U E = true) (h0 : 0 ≤ w) (h1 : w < 2) : isOk C U (twT E) w = true := is_t.2 ⟨cow_tw hm, by omega⟩
theorem drop_tw {C U E : List (List L)} {w : Int} (hm : machOk C U E = true) (rc : Rw [.sl [tI]] C) (ru : Rw [tB] U) (h0 : 0 ≤ w) (h1 : w < 2) : cpC C U (twT E) w = C ∧ cpU C U (twT E) w = U ∧ cpT C U (twT E) w = E := by
  have q := cp_yes (is_tw hm h0 h1)
  have fl := fr_len (mc_ok hm).1
  have e : gsI (twT E) (1 - w) 0 = E := tw_0 (by omega) (by omega)
  have s := cd_same hm rc ru U.length (by omega)
  rw [e] at q
  rw [q.1, q.2.1, q.2.2]; exact ⟨s.2, s.1, rfl⟩
end Go.V
