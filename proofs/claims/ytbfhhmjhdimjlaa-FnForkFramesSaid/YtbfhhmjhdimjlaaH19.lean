/-
  Samples: the steps of the program.
-/
import Derived.Test.YtbfhhmjhdimjlaaH18
import Derived.Test.YtbfhhmjhdimjlaaH8

set_option linter.all false
namespace Go.V

theorem so_n {nx x e a ev n : Int} (he : 1 ≤ ev) (hx : x = nx + n * ev) (h0 : 0 ≤ n) (hge : e + a ≤ x) (h2 : n = 0 ∨ x - ev < e + a) : n = cdv (e + a - nx) ev := by
  refine cdv_of he h0 (by omega) ?_
  rcases h2 with q | q
  · exact .inl q
  · refine .inr ?_
    rw [Int.sub_mul, Int.one_mul]; omega
theorem so_yes {sz out : List (List L)} {ev st nx e x n i : Int} (hi : (out, nx, e) = smS sz ev st i.toNat) (i0 : 0 ≤ i) (he : 1 ≤ ev) (hx : x = nx + n * ev) (hge : e + giI sz i 0 ≤ x) (h2 : n = 0 ∨ x - ev < e + giI sz i 0) (hn : 0 < n) :
    (out ++ [[.v (.int .i64 (giI sz i 0)), .v (.int .i64 (n * ev))]], x, e + giI sz i 0) = smS sz ev st (i + 1).toNat := by
  have q := so_n (a := giI sz i 0) he hx (by omega) hge h2
  have ei : ((i.toNat : Nat) : Int) = i := Int.toNat_of_nonneg i0
  have e1 : (smS sz ev st i.toNat).1 = out := by rw [← hi]
  have e2 : (smS sz ev st i.toNat).2.1 = nx := by rw [← hi]
  have e3 : (smS sz ev st i.toNat).2.2 = e := by rw [← hi]
  rw [show (i + 1).toNat = i.toNat + 1 by omega]
  simp only [smS, e1, e2, e3, ei]
  rw [← q, if_pos hn, hx]
theorem so_no {sz out : List (List L)} {ev st nx e x n i : Int} (hi : (out, nx, e) = smS sz ev st i.toNat) (i0 : 0 ≤ i) (he : 1 ≤ ev) (hx : x = nx + n * ev) (h0 : 0 ≤ n) (hge : e + giI sz i 0 ≤ x) (h2 : n = 0 ∨ x - ev < e + giI sz i 0) (hn : n ≤ 0) :
    (out, x, e + giI sz i 0) = smS sz ev st (i + 1).toNat := by
  have q := so_n (a := giI sz i 0) he hx h0 hge h2
  have ei : ((i.toNat : Nat) : Int) = i := Int.toNat_of_nonneg i0
  have e1 : (smS sz ev st i.toNat).1 = out := by rw [← hi]
  have e2 : (smS sz ev st i.toNat).2.1 = nx := by rw [← hi]
  have e3 : (smS sz ev st i.toNat).2.2 = e := by rw [← hi]
  rw [show (i + 1).toNat = i.toNat + 1 by omega]
  simp only [smS, e1, e2, e3, ei]
  rw [← q, if_neg (by omega), hx]
/-- Bounds of the outer loop. -/
theorem so_b {sz out : List (List L)} {ev st nx e i : Int} (h : szOk sz) (he : 1 ≤ ev) (h0 : 0 ≤ st) (h1 : st < ev) (hi : (out, nx, e) = smS sz ev st i.toNat) (i0 : 0 ≤ i) (i1 : i ≤ sz.length) :
    0 ≤ e ∧ e ≤ 1000 * i ∧ e ≤ nx ∧ nx < e + ev ∧ out.length ≤ i.toNat := by
  have t := tot_b h (n := i.toNat) (by omega)
  have x := sm_nx h he h0 h1 (n := i.toNat) (by omega)
  have a := (sm_at h he h0 h1 (n := i.toNat) (by omega)).1
  have e1 := sm_end (sz := sz) (ev := ev) (st := st) (n := i.toNat)
  rw [← hi] at x a e1
  have e1 : e = _ := e1
  have x : _ ≤ nx ∧ nx < _ := x
  have a : out.length ≤ _ := a
  omega
/-- Samples that the functions can add up. -/
def smOk (l : List (List L)) : Prop := Rw [tI, tI] l ∧ l.length ≤ 200 ∧ ∀ j : Nat, j < l.length → 0 ≤ giI l j 1 ∧ giI l j 1 ≤ 2000
theorem smp_ok {sz : List (List L)} {ev st : Int} (h : szOk sz) (he : 1 ≤ ev) (he2 : ev ≤ 1000) (h0 : 0 ≤ st) (h1 : st < ev) : smOk (smp sz ev st) := by
  have a := sm_at h he h0 h1 (n := sz.length) (Nat.le_refl _)
  have hl := h.1
  refine ⟨⟨by unfold maxLen smp; omega, fun r hr => ?_⟩, by unfold smp; omega, fun j hj => ?_⟩
  · obtain ⟨j, hj⟩ := List.getElem?_of_mem hr
    have hlt := (List.getElem?_eq_some_iff.1 hj).1
    obtain ⟨i, k, q1, q2, q3, q4⟩ := a.2 j hlt
    have b := h.2 i (by omega) (by omega)
    have q4 : (smp sz ev st).getD j [] = _ := q4
    rw [List.getD_eq_getElem?_getD, hj] at q4
    have q4 : r = _ := q4
    have b3 : 0 ≤ k * ev := Int.mul_nonneg (by omega) (by omega)
    rw [q4]
    exact ⟨⟨rfl, by show -9223372036854775808 ≤ _ ∧ _ ≤ (9223372036854775807 : Int); omega⟩, ⟨rfl, by show -9223372036854775808 ≤ _ ∧ _ ≤ (9223372036854775807 : Int); omega⟩, trivial⟩
  · obtain ⟨i, k, q1, q2, q3, q4⟩ := a.2 j hj
    have b3 : 0 ≤ k * ev := Int.mul_nonneg (by omega) (by omega)
    have e : giI (smp sz ev st) j 1 = k * ev := by
      unfold giI
      have q4 : (smp sz ev st).getD j [] = _ := q4
      rw [Int.toNat_natCast, q4]; rfl
    omega
theorem wt_b {l : List (List L)} (h : smOk l) : ∀ {n : Nat}, n ≤ l.length → 0 ≤ wtN l n ∧ wtN l n ≤ 2000 * n
  | 0, _ => ⟨Int.le_refl _, Int.le_refl _⟩
  | n + 1, hn => by
    have ih := wt_b h (n := n) (by omega)
    have q := h.2.2 n (by omega)
    show 0 ≤ wtN l n + giI l n 1 ∧ wtN l n + giI l n 1 ≤ 2000 * ((n + 1 : Nat) : Int)
    omega
theorem wt_up {l : List (List L)} {i : Int} (i0 : 0 ≤ i) : wtN l (i + 1).toNat = wtN l i.toNat + giI l i 1 := by
  rw [show (i + 1).toNat = i.toNat + 1 by omega, wtN, Int.toNat_of_nonneg i0]
theorem lg_up {l : List (List L)} {i : Int} (i0 : 0 ≤ i) : lgN l (i + 1).toNat = mmI true (lgN l i.toNat) (giI l i 0) := by
  rw [show (i + 1).toNat = i.toNat + 1 by omega, lgN, Int.toNat_of_nonneg i0]
theorem tot_up {l : List (List L)} {i : Int} (i0 : 0 ≤ i) : totN l (i + 1).toNat = totN l i.toNat + giI l i 0 := by
  rw [show (i + 1).toNat = i.toNat + 1 by omega, totN, Int.toNat_of_nonneg i0]
theorem cg_yes {l : List (List L)} {ev i : Int} (i0 : 0 ≤ i) (h : ev ≤ giI l i 0) : cgN l ev (i + 1).toNat = cgN l ev i.toNat + 1 := by
  rw [show (i + 1).toNat = i.toNat + 1 by omega, cgN, Int.toNat_of_nonneg i0, if_pos h]
theorem cg_no {l : List (List L)} {ev i : Int} (i0 : 0 ≤ i) (h : ¬ ev ≤ giI l i 0) : cgN l ev (i + 1).toNat = cgN l ev i.toNat := by
  rw [show (i + 1).toNat = i.toNat + 1 by omega, cgN, Int.toNat_of_nonneg i0, if_neg h]; omega
theorem cg_b {l : List (List L)} {ev : Int} : ∀ {n : Nat}, 0 ≤ cgN l ev n ∧ cgN l ev n ≤ n
  | 0 => ⟨Int.le_refl _, Int.le_refl _⟩
  | n + 1 => by
    have ih := cg_b (l := l) (ev := ev) (n := n)
    show 0 ≤ cgN l ev n + (if ev ≤ giI l n 0 then 1 else 0) ∧ cgN l ev n + (if ev ≤ giI l n 0 then 1 else 0) ≤ ((n + 1 : Nat) : Int)
    split <;> omega
/-- What all starts add up to. -/
theorem su_up {sz : List (List L)} {ev s : Int} (h : szOk sz) (he : 1 ≤ ev) (s0 : 0 ≤ s) (s1 : s < ev) : sumU (totN sz sz.length) ev (s + 1).toNat = sumU (totN sz sz.length) ev s.toNat + wtN (smp sz ev s) (smp sz ev s).length := by
  rw [smp_cells h he s0 s1, show (s + 1).toNat = s.toNat + 1 by omega, sumU, Int.toNat_of_nonneg s0]
theorem su_all {sz : List (List L)} {ev : Int} (h : szOk sz) (he : 1 ≤ ev) : sumU (totN sz sz.length) ev ev.toNat = ev * totN sz sz.length := by
  have t := tot_b h (Nat.le_refl sz.length)
  have := unbiased (T := (totN sz sz.length).toNat) (ev := ev) (m := ev.toNat - 1) (by omega)
  rw [Int.toNat_of_nonneg (by omega), show ev.toNat - 1 + 1 = ev.toNat by omega] at this
  exact this
theorem su_b {sz : List (List L)} {ev : Int} (h : szOk sz) (he : 1 ≤ ev) (he2 : ev ≤ 1000) : ∀ {n : Nat}, (n : Int) ≤ ev → 0 ≤ sumU (totN sz sz.length) ev n ∧ sumU (totN sz sz.length) ev n ≤ 400000 * n
  | 0, _ => ⟨Int.le_refl _, Int.le_refl _⟩
  | n + 1, hn => by
    have ih := su_b h he he2 (n := n) (by omega)
    have e := su_up h he (s := n) (by omega) (by omega)
    have o := smp_ok h he he2 (st := n) (by omega) (by omega)
    have w := wt_b o (Nat.le_refl _)
    have l := o.2.1
    rw [show ((n : Int) + 1).toNat = n + 1 by omega, Int.toNat_natCast] at e
    omega
def wtS (l : List (List L)) : Int := wtN l l.length
def lgS (l : List (List L)) : Int := lgN l l.length
def suS (sz : List (List L)) (ev : Int) : Int := sumU (totN sz sz.length) ev ev.toNat
def bgB (cs : List (List L)) : Bool := decide ((cs.length : Int) > 1048576)
end Go.V
