/-
  Samples: what the program computes, in plain words, and the laws of the estimate.
-/
import Derived.Test.YtbfhhmjhdimjlaaH13

set_option linter.all false
namespace Go.V

/-- How many steps of a distance from a place to the end. -/
def cdv (a ev : Int) : Int := if a ≤ 0 then 0 else (a + ev - 1) / ev
theorem cdv_of {a ev n : Int} (he : 1 ≤ ev) (h0 : 0 ≤ n) (h1 : a ≤ n * ev) (h2 : n = 0 ∨ (n - 1) * ev < a) : n = cdv a ev := by
  unfold cdv
  split
  · rename_i h
    rcases h2 with h2 | h2
    · exact h2
    · have : n - 1 < 0 := by
        rcases Int.lt_or_le (n - 1) 0 with q | q
        · exact q
        · exact absurd (Int.mul_nonneg q (by omega : 0 ≤ ev)) (by omega)
      omega
  · rename_i h
    have hn : n ≠ 0 := by rintro rfl; simp at h1; omega
    have h3 : (n - 1) * ev < a := by rcases h2 with q | q; exact absurd q hn; exact q
    have e1 : (n - 1) * ev = n * ev - ev := by rw [Int.sub_mul, Int.one_mul]
    have e2 : ev * n = n * ev := Int.mul_comm _ _
    have q1 : (a + ev - 1 - ev * n) + ev * n = a + ev - 1 := by omega
    have q2 : 0 ≤ a + ev - 1 - ev * n := by omega
    have q3 : a + ev - 1 - ev * n < ev := by omega
    exact ((Int.ediv_emod_unique (show 0 < ev by omega)).2 ⟨q1, q2, q3⟩).1.symm
theorem cdv_0 {a ev : Int} (he : 1 ≤ ev) : 0 ≤ cdv a ev := by
  unfold cdv; split
  · exact Int.le_refl _
  · exact Int.ediv_nonneg (by omega) (by omega)
theorem cdv_b {a ev : Int} (he : 1 ≤ ev) : a ≤ cdv a ev * ev ∧ (cdv a ev = 0 ∨ (cdv a ev - 1) * ev < a) ∧ (0 < a → 1 ≤ cdv a ev) := by
  unfold cdv; split
  · refine ⟨by omega, .inl rfl, fun h => by omega⟩
  · rename_i h
    have h1 := Int.emod_nonneg (a + ev - 1) (show ev ≠ 0 by omega)
    have h2 := Int.emod_lt_of_pos (a + ev - 1) (show 0 < ev by omega)
    have h3 := Int.mul_ediv_add_emod (a + ev - 1) ev
    have h4 : ev * ((a + ev - 1) / ev) = (a + ev - 1) / ev * ev := Int.mul_comm _ _
    refine ⟨by omega, .inr ?_, fun _ => ?_⟩
    · rw [Int.sub_mul, Int.one_mul]; omega
    · exact (Int.le_ediv_iff_mul_le (by omega)).2 (by omega)

def szOk (sz : List (List L)) : Prop := sz.length ≤ 200 ∧ ∀ i : Int, 0 ≤ i → i < sz.length → 1 ≤ giI sz i 0 ∧ giI sz i 0 ≤ 1000
/-- The sample so far, the next cell that is sampled, the cells so far. -/
def smS (sz : List (List L)) (ev st : Int) : Nat → List (List L) × Int × Int
  | 0 => ([], st, 0)
  | n + 1 =>
    (if 0 < cdv ((smS sz ev st n).2.2 + giI sz n 0 - (smS sz ev st n).2.1) ev then (smS sz ev st n).1 ++ [[.v (.int .i64 (giI sz n 0)), .v (.int .i64 (cdv ((smS sz ev st n).2.2 + giI sz n 0 - (smS sz ev st n).2.1) ev * ev))]] else (smS sz ev st n).1,
     (smS sz ev st n).2.1 + cdv ((smS sz ev st n).2.2 + giI sz n 0 - (smS sz ev st n).2.1) ev * ev, (smS sz ev st n).2.2 + giI sz n 0)
def smp (sz : List (List L)) (ev st : Int) : List (List L) := (smS sz ev st sz.length).1
/-- The sum of the first sizes; of the weights. -/
def totN (sz : List (List L)) : Nat → Int
  | 0 => 0
  | n + 1 => totN sz n + giI sz n 0
def wtN (l : List (List L)) : Nat → Int
  | 0 => 0
  | n + 1 => wtN l n + giI l n 1
theorem sm_end {sz : List (List L)} {ev st : Int} : ∀ {n : Nat}, (smS sz ev st n).2.2 = totN sz n
  | 0 => rfl
  | n + 1 => by show (smS sz ev st n).2.2 + giI sz n 0 = totN sz n + giI sz n 0; rw [sm_end]
theorem tot_b {sz : List (List L)} (h : szOk sz) : ∀ {n : Nat}, n ≤ sz.length → (n : Int) ≤ totN sz n ∧ totN sz n ≤ 1000 * n
  | 0, _ => ⟨Int.le_refl _, Int.le_refl _⟩
  | n + 1, hn => by
    have ih := tot_b h (n := n) (by omega)
    have q := h.2 n (by omega) (by omega)
    show ((n + 1 : Nat) : Int) ≤ totN sz n + giI sz n 0 ∧ totN sz n + giI sz n 0 ≤ 1000 * ((n + 1 : Nat) : Int)
    omega
theorem sm_nx {sz : List (List L)} {ev st : Int} (h : szOk sz) (he : 1 ≤ ev) (h0 : 0 ≤ st) (h1 : st < ev) : ∀ {n : Nat}, n ≤ sz.length → totN sz n ≤ (smS sz ev st n).2.1 ∧ (smS sz ev st n).2.1 < totN sz n + ev
  | 0, _ => ⟨h0, by show st < 0 + ev; omega⟩
  | n + 1, hn => by
    have ih := sm_nx h he h0 h1 (n := n) (by omega)
    have q := h.2 n (by omega) (by omega)
    have e : (smS sz ev st (n + 1)).2.1 = (smS sz ev st n).2.1 + cdv ((smS sz ev st n).2.2 + giI sz n 0 - (smS sz ev st n).2.1) ev * ev := rfl
    have b := cdv_b (a := (smS sz ev st n).2.2 + giI sz n 0 - (smS sz ev st n).2.1) he
    have z := cdv_0 (a := (smS sz ev st n).2.2 + giI sz n 0 - (smS sz ev st n).2.1) he
    have t : totN sz (n + 1) = totN sz n + giI sz n 0 := rfl
    have en := sm_end (sz := sz) (ev := ev) (st := st) (n := n)
    rw [e, t]
    rw [en] at b z ⊢
    generalize cdv (totN sz n + giI sz n 0 - (smS sz ev st n).2.1) ev = k at *
    refine ⟨by omega, ?_⟩
    rcases b.2.1 with c | c
    · subst c; rw [Int.zero_mul]; omega
    · rw [Int.sub_mul, Int.one_mul] at c; omega
theorem wt_app {a : List (List L)} {r : (List L)} : ∀ {n : Nat}, n ≤ a.length → wtN (a ++ [r]) n = wtN a n
  | 0, _ => rfl
  | n + 1, h => by
    show wtN (a ++ [r]) n + giI (a ++ [r]) n 1 = wtN a n + giI a n 1
    rw [wt_app (by omega)]
    have : giI (a ++ [r]) n 1 = giI a n 1 := by
      unfold giI
      have e : (a ++ [r]).getD (n : Int).toNat [] = a.getD (n : Int).toNat [] := by
        rw [Int.toNat_natCast, List.getD_eq_getElem?_getD, List.getElem?_append_left (by omega), ← List.getD_eq_getElem?_getD]
      rw [e]
    rw [this]
theorem wt_snoc {a : List (List L)} {r : (List L)} : wtN (a ++ [r]) (a ++ [r]).length = wtN a a.length + lfI (r.getD 1 .g) := by
  rw [List.length_append]
  show wtN (a ++ [r]) a.length + giI (a ++ [r]) a.length 1 = _
  rw [wt_app (Nat.le_refl _)]
  unfold giI
  have e : (a ++ [r]).getD (a.length : Int).toNat [] = r := by
    rw [Int.toNat_natCast, List.getD_eq_getElem?_getD, List.getElem?_append_right (Nat.le_refl _), Nat.sub_self]; rfl
  rw [e]
/-- The weights are the way from the start to the next cell. -/
theorem sm_wt {sz : List (List L)} {ev st : Int} (he : 1 ≤ ev) : ∀ {n : Nat}, wtN (smS sz ev st n).1 (smS sz ev st n).1.length = (smS sz ev st n).2.1 - st
  | 0 => by show (0 : Int) = st - st; omega
  | n + 1 => by
    have ih := sm_wt (sz := sz) (st := st) he (n := n)
    have z := cdv_0 (a := (smS sz ev st n).2.2 + giI sz n 0 - (smS sz ev st n).2.1) he
    by_cases c : 0 < cdv ((smS sz ev st n).2.2 + giI sz n 0 - (smS sz ev st n).2.1) ev
    · have e1 : (smS sz ev st (n + 1)).1 = (smS sz ev st n).1 ++ [[.v (.int .i64 (giI sz n 0)), .v (.int .i64 (cdv ((smS sz ev st n).2.2 + giI sz n 0 - (smS sz ev st n).2.1) ev * ev))]] := if_pos c
      rw [e1, wt_snoc, ih]
      show _ + cdv ((smS sz ev st n).2.2 + giI sz n 0 - (smS sz ev st n).2.1) ev * ev = (smS sz ev st n).2.1 + cdv ((smS sz ev st n).2.2 + giI sz n 0 - (smS sz ev st n).2.1) ev * ev - st
      omega
    · have e1 : (smS sz ev st (n + 1)).1 = (smS sz ev st n).1 := if_neg c
      rw [e1, ih]
      have : cdv ((smS sz ev st n).2.2 + giI sz n 0 - (smS sz ev st n).2.1) ev = 0 := by omega
      show _ = (smS sz ev st n).2.1 + cdv ((smS sz ev st n).2.2 + giI sz n 0 - (smS sz ev st n).2.1) ev * ev - st
      rw [this]; omega

/-- Where the next cell lies, of all cells that a start leads to. -/
theorem sm_mod {sz : List (List L)} {ev st : Int} (he : 1 ≤ ev) : ∀ {n : Nat}, (smS sz ev st n).2.1 % ev = st % ev
  | 0 => rfl
  | n + 1 => by
    show ((smS sz ev st n).2.1 + cdv ((smS sz ev st n).2.2 + giI sz n 0 - (smS sz ev st n).2.1) ev * ev) % ev = _
    rw [Int.add_mul_emod_self_right]
    exact sm_mod he
def nxt (T ev st : Int) : Int := T + (st - T) % ev
theorem nx_eq {sz : List (List L)} {ev st : Int} (h : szOk sz) (he : 1 ≤ ev) (h0 : 0 ≤ st) (h1 : st < ev) : (smS sz ev st sz.length).2.1 = nxt (totN sz sz.length) ev st := by
  have b := sm_nx h he h0 h1 (Nat.le_refl sz.length)
  have m := sm_mod (sz := sz) (st := st) he (n := sz.length)
  generalize (smS sz ev st sz.length).2.1 = x at *
  generalize totN sz sz.length = T at *
  have e : (x - T) % ev = (st - T) % ev := by rw [Int.sub_emod, m, ← Int.sub_emod]
  rw [Int.emod_eq_of_lt (by omega) (by omega)] at e
  unfold nxt; omega
/-- The cells of a sample: the sum of its weights. -/
theorem smp_cells {sz : List (List L)} {ev st : Int} (h : szOk sz) (he : 1 ≤ ev) (h0 : 0 ≤ st) (h1 : st < ev) : wtN (smp sz ev st) (smp sz ev st).length = nxt (totN sz sz.length) ev st - st := by
  unfold smp; rw [sm_wt he, nx_eq h he h0 h1]
def sumU (T ev : Int) : Nat → Int
  | 0 => 0
  | n + 1 => sumU T ev n + (nxt T ev n - n)
def sumM (T ev : Int) : Nat → Int
  | 0 => 0
  | n + 1 => sumM T ev n + ((n : Int) - T) % ev
def sumI : Nat → Int
  | 0 => 0
  | n + 1 => sumI n + n
theorem sumU_eq {T ev : Int} : ∀ {n : Nat}, sumU T ev n = n * T + sumM T ev n - sumI n
  | 0 => by show (0 : Int) = (0 : Nat) * T + 0 - 0; omega
  | n + 1 => by
    show sumU T ev n + (T + ((n : Int) - T) % ev - n) = ((n + 1 : Nat) : Int) * T + (sumM T ev n + ((n : Int) - T) % ev) - (sumI n + n)
    rw [sumU_eq]
    have : ((n + 1 : Nat) : Int) * T = n * T + T := by rw [Int.natCast_add, Int.add_mul]; simp
    omega
theorem sumM_up {T ev : Int} : ∀ {n : Nat}, sumM (T + 1) ev (n + 1) = sumM T ev n + (-1 - T) % ev
  | 0 => by
    show 0 + ((0 : Nat) - (T + 1)) % ev = 0 + (-1 - T) % ev
    congr 2; omega
  | n + 1 => by
    show sumM (T + 1) ev (n + 1) + (((n + 1 : Nat) : Int) - (T + 1)) % ev = sumM T ev n + ((n : Int) - T) % ev + (-1 - T) % ev
    rw [sumM_up, show ((n + 1 : Nat) : Int) - (T + 1) = (n : Int) - T from by omega]; omega
theorem sumM_all {ev : Int} {m : Nat} (he : ev = ((m + 1 : Nat) : Int)) : ∀ (T : Nat), sumM T ev (m + 1) = sumI (m + 1)
  | 0 => by
    have key : ∀ n : Nat, n ≤ m + 1 → sumM (0 : Nat) ev n = sumI n := by
      intro n
      induction n with
      | zero => intro _; rfl
      | succ n ih =>
        intro hn
        show sumM (0 : Nat) ev n + ((n : Int) - (0 : Nat)) % ev = sumI n + n
        rw [ih (by omega), Int.emod_eq_of_lt (by omega) (by omega)]; omega
    exact key _ (Nat.le_refl _)
  | T + 1 => by
    have e : ((T + 1 : Nat) : Int) = (T : Int) + 1 := by omega
    rw [e, sumM_up, ← sumM_all he T]
    show sumM T ev m + (-1 - (T : Int)) % ev = sumM T ev m + ((m : Int) - T) % ev
    have : (m : Int) - T = (-1 - T) + ev := by omega
    rw [this, Int.add_emod_right]
/-- THE ESTIMATE IS UNBIASED. -/
theorem unbiased {T : Nat} {ev : Int} {m : Nat} (he : ev = ((m + 1 : Nat) : Int)) : sumU T ev (m + 1) = ev * T := by
  rw [sumU_eq, sumM_all he T, ← he]; omega

/-! ### Objects of at least the distance are sampled -/
def cgN (l : List (List L)) (ev : Int) : Nat → Int
  | 0 => 0
  | n + 1 => cgN l ev n + (if ev ≤ giI l n 0 then 1 else 0)
theorem gi_app {a : List (List L)} {r : (List L)} {n j : Nat} (h : n < a.length) : giI (a ++ [r]) n j = giI a n j := by
  unfold giI
  have e : (a ++ [r]).getD (n : Int).toNat [] = a.getD (n : Int).toNat [] := by
    rw [Int.toNat_natCast, List.getD_eq_getElem?_getD, List.getElem?_append_left h, ← List.getD_eq_getElem?_getD]
  rw [e]
theorem gi_last {a : List (List L)} {r : (List L)} {j : Nat} : giI (a ++ [r]) a.length j = lfI (r.getD j .g) := by
  unfold giI
  have e : (a ++ [r]).getD (a.length : Int).toNat [] = r := by
    rw [Int.toNat_natCast, List.getD_eq_getElem?_getD, List.getElem?_append_right (Nat.le_refl _), Nat.sub_self]; rfl
  rw [e]
theorem cg_app {a : List (List L)} {r : (List L)} {ev : Int} : ∀ {n : Nat}, n ≤ a.length → cgN (a ++ [r]) ev n = cgN a ev n
  | 0, _ => rfl
  | n + 1, h => by
    show cgN (a ++ [r]) ev n + (if ev ≤ giI (a ++ [r]) n 0 then 1 else 0) = cgN a ev n + (if ev ≤ giI a n 0 then 1 else 0)
    rw [cg_app (by omega), gi_app (by omega)]
theorem cg_snoc {a : List (List L)} {r : (List L)} {ev : Int} : cgN (a ++ [r]) ev (a ++ [r]).length = cgN a ev a.length + (if ev ≤ lfI (r.getD 0 .g) then 1 else 0) := by
  rw [List.length_append]
  show cgN (a ++ [r]) ev a.length + (if ev ≤ giI (a ++ [r]) a.length 0 then 1 else 0) = _
  rw [cg_app (Nat.le_refl _), gi_last]
theorem sm_cg {sz : List (List L)} {ev st : Int} (h : szOk sz) (he : 1 ≤ ev) (h0 : 0 ≤ st) (h1 : st < ev) : ∀ {n : Nat}, n ≤ sz.length → cgN (smS sz ev st n).1 ev (smS sz ev st n).1.length = cgN sz ev n
  | 0, _ => rfl
  | n + 1, hn => by
    have ih := sm_cg h he h0 h1 (n := n) (by omega)
    have nx := sm_nx h he h0 h1 (n := n) (by omega)
    have en := sm_end (sz := sz) (ev := ev) (st := st) (n := n)
    have b := cdv_b (a := (smS sz ev st n).2.2 + giI sz n 0 - (smS sz ev st n).2.1) he
    by_cases c : 0 < cdv ((smS sz ev st n).2.2 + giI sz n 0 - (smS sz ev st n).2.1) ev
    · have e1 : (smS sz ev st (n + 1)).1 = (smS sz ev st n).1 ++ [[.v (.int .i64 (giI sz n 0)), .v (.int .i64 (cdv ((smS sz ev st n).2.2 + giI sz n 0 - (smS sz ev st n).2.1) ev * ev))]] := if_pos c
      rw [e1, cg_snoc, ih]; rfl
    · have e1 : (smS sz ev st (n + 1)).1 = (smS sz ev st n).1 := if_neg c
      rw [e1, ih]
      show _ = cgN sz ev n + (if ev ≤ giI sz n 0 then 1 else 0)
      rw [if_neg (fun q => c (by have := b.2.2 (by rw [en]; omega); omega))]
      omega
/-- What stands in a sample. -/
theorem sm_at {sz : List (List L)} {ev st : Int} (h : szOk sz) (he : 1 ≤ ev) (h0 : 0 ≤ st) (h1 : st < ev) : ∀ {n : Nat}, n ≤ sz.length → (smS sz ev st n).1.length ≤ n ∧ ∀ j : Nat, j < (smS sz ev st n).1.length →
    ∃ (i : Nat) (k : Int), i < n ∧ 1 ≤ k ∧ k * ev ≤ 1000 + ev ∧ (smS sz ev st n).1.getD j [] = [.v (.int .i64 (giI sz i 0)), .v (.int .i64 (k * ev))]
  | 0, _ => ⟨Nat.le_refl _, fun j hj => by simp [smS] at hj⟩
  | n + 1, hn => by
    obtain ⟨l1, l2⟩ := sm_at h he h0 h1 (n := n) (by omega)
    have nx := sm_nx h he h0 h1 (n := n) (by omega)
    have en := sm_end (sz := sz) (ev := ev) (st := st) (n := n)
    have b := cdv_b (a := (smS sz ev st n).2.2 + giI sz n 0 - (smS sz ev st n).2.1) he
    have q := h.2 n (by omega) (by omega)
    by_cases c : 0 < cdv ((smS sz ev st n).2.2 + giI sz n 0 - (smS sz ev st n).2.1) ev
    · have e1 : (smS sz ev st (n + 1)).1 = (smS sz ev st n).1 ++ [[.v (.int .i64 (giI sz n 0)), .v (.int .i64 (cdv ((smS sz ev st n).2.2 + giI sz n 0 - (smS sz ev st n).2.1) ev * ev))]] := if_pos c
      rw [e1, List.length_append]
      refine ⟨by simp; omega, fun j hj => ?_⟩
      by_cases cj : j < (smS sz ev st n).1.length
      · obtain ⟨i, k, a1, a2, a3, a4⟩ := l2 j cj
        refine ⟨i, k, by omega, a2, a3, ?_⟩
        rw [List.getD_eq_getElem?_getD, List.getElem?_append_left cj, ← List.getD_eq_getElem?_getD]; exact a4
      · have ej : j = (smS sz ev st n).1.length := by simp at hj; omega
        refine ⟨n, cdv ((smS sz ev st n).2.2 + giI sz n 0 - (smS sz ev st n).2.1) ev, by omega, by omega, ?_, ?_⟩
        · rcases b.2.1 with z | z
          · omega
          · rw [Int.sub_mul, Int.one_mul] at z; omega
        · subst ej
          rw [List.getD_eq_getElem?_getD, List.getElem?_append_right (Nat.le_refl _), Nat.sub_self]; rfl
    · have e1 : (smS sz ev st (n + 1)).1 = (smS sz ev st n).1 := if_neg c
      rw [e1]
      exact ⟨by omega, fun j hj => by obtain ⟨i, k, a1, a2⟩ := l2 j hj; exact ⟨i, k, by omega, a2⟩⟩
def lgN (l : List (List L)) : Nat → Int
  | 0 => 0
  | n + 1 => mmI true (lgN l n) (giI l n 0)
theorem lg_b {l : List (List L)} {M : Int} (hM : 0 ≤ M) : ∀ {n : Nat}, (∀ j : Nat, j < n → giI l j 0 ≤ M) → 0 ≤ lgN l n ∧ lgN l n ≤ M
  | 0, _ => ⟨Int.le_refl _, hM⟩
  | n + 1, h => by
    have ih := lg_b hM (l := l) (n := n) (fun j hj => h j (by omega))
    have q := h n (by omega)
    show 0 ≤ mmI true (lgN l n) (giI l n 0) ∧ mmI true (lgN l n) (giI l n 0) ≤ M
    unfold mmI
    rw [if_pos rfl]
    split <;> omega
end Go.V
