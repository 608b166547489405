/-
  What the guards are and what setting them computes, in plain words.
-/
import Derived.Test.YtbfhhmjhdimjlaaH5

set_option linter.all false
namespace Go.V

theorem cntEs_same : ∀ {es : List (List L)} {n : Nat} {e : (List L)}, n < es.length → cntR e = cntR (es.getD n []) → cntEs (es.set n e) = cntEs es
  | [], n, _, h, _ => absurd h (by simp)
  | a :: es, 0, e, _, h => by simp only [List.set_cons_zero, cntEs]; simp at h; omega
  | a :: es, n + 1, e, hn, h => by
    have := cntEs_same (es := es) (n := n) (e := e) (by simpa using hn) (by simpa using h)
    simp only [List.set_cons_succ, cntEs]; omega
theorem stNew_same {cs : List (List L)} {fr k v : Int} (h : Rw [.sl [tI]] cs) (h0 : 0 ≤ fr) (h1 : fr < cs.length) (hv : -9223372036854775808 ≤ v ∧ v ≤ 9223372036854775807) : cntE (stNew cs fr k v) = cntE cs := by
  have hr : Rw [tI] (gsI cs fr 0) := Rw.sub (fs := [.sl [tI]]) h (by omega) rfl
  have hs : Rw [tI] ((gsI cs fr 0).set k.toNat [.v (.int .i64 v)]) := hr.set (show confR [tI] [.v (.int .i64 v)] from ⟨⟨rfl, hv⟩, trivial⟩) _
  unfold stNew cntE
  rw [List.length_set, cntEs_same (by omega)]
  rw [row_at h h0 h1]
  have e1 := hr.cnt rfl
  have e2 := hs.cnt rfl
  rw [List.length_set] at e2
  unfold cntE at e1 e2
  simp only [cntR, cntL, List.length_set] at *
  omega
theorem stC_same {cs us es : List (List L)} {a v : Int} (h : Rw [.sl [tI]] cs) (hv : -9223372036854775808 ≤ v ∧ v ≤ 9223372036854775807) : cntE (stC cs us es a v) = cntE cs := by
  unfold stC; split
  · rename_i q
    have hm : smM cs us es a ≠ 0 := fun e => by rw [(st_1 e).1] at q; cases q
    have hf := sm_fr hm
    exact stNew_same h hf.1 hf.2.1 hv
  · rfl
theorem cl_bd {s : Int} (h : 0 ≤ clsOf s) : 1 ≤ s ∧ s ≤ clsSz (clsOf s) ∧ clsSz (clsOf s) ≤ 8 ∧ clsOf s ≤ 3 := by
  unfold clsOf at h ⊢
  repeat' split at h
  all_goals simp_all [clsSz]
  all_goals omega
def gdN (a s : Int) : Nat → List (List L)
  | 0 => []
  | n + 1 => gdN a s n ++ [[.v (.int .i64 (a + (s + n)))]]
theorem gdN_len {a s : Int} : ∀ {n : Nat}, (gdN a s n).length = n
  | 0 => rfl
  | n + 1 => by unfold gdN; rw [List.length_append, gdN_len]; rfl
def gdB (a s : Int) : Bool := decide (0 ≤ clsOf s) && inR a 0 511 && decide (a % clsSz (clsOf s) = 0)
def gdC (a s : Int) : List (List L) := if gdB a s = true then gdN a s (clsSz (clsOf s) - s).toNat else []
theorem gd_no {a s : Int} (h : ¬ (0 ≤ clsOf s ∧ inR a 0 511 = true ∧ a % clsSz (clsOf s) = 0)) : gdC a s = [] := by
  have : ¬ gdB a s = true := fun q => h (by unfold gdB at q; simp only [Bool.and_eq_true, decide_eq_true_eq] at q; exact ⟨q.1.1, q.1.2, q.2⟩)
  unfold gdC; rw [if_neg this]
theorem gd_yes {a s : Int} (h0 : 0 ≤ clsOf s) (h1 : inR a 0 511 = true) (h2 : a % clsSz (clsOf s) = 0) : gdC a s = gdN a s (clsSz (clsOf s) - s).toNat := by
  have : gdB a s = true := by unfold gdB; rw [decide_eq_true h0, h1, decide_eq_true h2]; rfl
  unfold gdC; rw [if_pos this]
theorem gdN_up {a s i : Int} (h : s ≤ i) : gdN a s (i + 1 - s).toNat = gdN a s (i - s).toNat ++ [[.v (.int .i64 (a + i))]] := by
  rw [show (i + 1 - s).toNat = (i - s).toNat + 1 by omega, gdN, show s + ((i - s).toNat : Int) = i by omega]
theorem gdN_rw {a s : Int} (ha : 0 ≤ a ∧ a ≤ 511) (hs : 1 ≤ s ∧ s ≤ 8) : ∀ {n : Nat}, n ≤ 8 → Rw [tI] (gdN a s n)
  | 0, _ => Rw.nil
  | n + 1, hn => by
    unfold gdN
    refine (gdN_rw ha hs (by omega)).append (Rw.one (show confR [tI] [.v (.int .i64 (a + (s + n)))] from ⟨⟨rfl, (show -9223372036854775808 ≤ a + (s + (n : Int)) ∧ a + (s + (n : Int)) ≤ 9223372036854775807 by omega)⟩, trivial⟩)) ?_
    rw [gdN_len]; simp [maxLen]; omega
theorem gd_ok {a s : Int} : Rw [tI] (gdC a s) ∧ (gdC a s).length ≤ 8 := by
  unfold gdC; split
  · rename_i q
    unfold gdB at q; simp only [Bool.and_eq_true, decide_eq_true_eq, inR_t] at q
    have hb := cl_bd q.1.1
    exact ⟨gdN_rw q.1.2 (by omega) (by omega), by rw [gdN_len]; omega⟩
  · exact ⟨Rw.nil, by simp⟩
def sgR (cs us es l : List (List L)) : Nat → List (List L)
  | 0 => cs
  | n + 1 => stC (sgR cs us es l n) us es (giI l n 0) 777
def sgIn (cs us es l : List (List L)) (i : Int) : Bool := decide (stK (sgR cs us es l i.toNat) us es (giI l i 0) 777 = 0)
def sgB (cs us es l : List (List L)) : Bool := allI (sgIn cs us es l) l.length
def sgC (cs us es l : List (List L)) : List (List L) := if sgB cs us es l = true then sgR cs us es l l.length else cs
theorem sgR_ok {cs us es l : List (List L)} (h : Rw [.sl [tI]] cs) : ∀ {n : Nat}, Rw [.sl [tI]] (sgR cs us es l n) ∧ cntE (sgR cs us es l n) = cntE cs
  | 0 => ⟨h, rfl⟩
  | n + 1 => by
    obtain ⟨h1, h2⟩ := sgR_ok (us := us) (es := es) (l := l) h (n := n)
    exact ⟨stC_rw h1 (by omega), by unfold sgR; rw [stC_same h1 (by omega), h2]⟩
theorem sgR_up {cs us es l : List (List L)} {i : Int} (h : 0 ≤ i) : sgR cs us es l (i + 1).toNat = stC (sgR cs us es l i.toNat) us es (giI l i 0) 777 := by
  have e : ((i.toNat : Nat) : Int) = i := Int.toNat_of_nonneg h
  rw [show (i + 1).toNat = i.toNat + 1 by omega, sgR, e]
theorem sg_no {cs us es l : List (List L)} {i : Int} (h0 : 0 ≤ i) (h1 : i < l.length) (h : stK (sgR cs us es l i.toNat) us es (giI l i 0) 777 ≠ 0) : sgB cs us es l = false ∧ sgC cs us es l = cs := by
  have : sgB cs us es l = false := allI_f h0 h1 (by unfold sgIn; exact decide_eq_false h)
  exact ⟨this, by unfold sgC; rw [this]; rfl⟩
theorem sg_in {cs us es l : List (List L)} {i : Int} (h : stK (sgR cs us es l i.toNat) us es (giI l i 0) 777 = 0) : sgIn cs us es l i = true := decide_eq_true h
theorem sg_yes {cs us es l : List (List L)} {i : Int} (h : upto (sgIn cs us es l) i) (h1 : i ≤ l.length) (hi : (l.length : Int) ≤ i) : sgB cs us es l = true ∧ sgC cs us es l = sgR cs us es l i.toNat := by
  have : sgB cs us es l = true := allI_of h hi
  exact ⟨this, by unfold sgC; rw [if_pos this, show i.toNat = l.length by omega]⟩
theorem sg_wf {cs us es l : List (List L)} (h : Rw [.sl [tI]] cs) : Rw [.sl [tI]] (sgC cs us es l) ∧ cntE (sgC cs us es l) = cntE cs := by
  unfold sgC; split
  · exact sgR_ok h
  · exact ⟨h, rfl⟩
theorem gi_has {l : List (List L)} {i : Int} (h : Rw [tI] l) (h0 : 0 ≤ i) (h1 : i < l.length) : -9223372036854775808 ≤ giI l i 0 ∧ giI l i 0 ≤ 9223372036854775807 := by
  have e := h.at (n := i.toNat) (by omega)
  rw [h.eta h0 h1] at e
  have e' : confR [tI] [.v (.int .i64 (giI l i 0))] := e
  exact e'.1.2
theorem pi_row {l : List (List L)} {i : Int} (h0 : 0 ≤ i) : piI (.s 1 l) [(i.toNat, 0)] = giI l i 0 := by
  rw [pi_one]; unfold giI; rw [Int.toNat_natCast]
theorem get_int {l : List (List L)} {i : Int} (h : Rw [tI] l) (h0 : 0 ≤ i) (h1 : i < l.length) : ∃ rec o, getR (.s 1 l) [(i.toNat, 0)] = some (rec, o) ∧ o + [L.v (Value.int .i64 0)].length ≤ rec.length ∧ List.take [L.v (Value.int .i64 0)].length (List.drop o rec) = etaP stdO (.s 1 l) [(i.toNat, 0)] 0 [L.v (Value.int .i64 0)] := by
  have e : l.getD i.toNat [] = [L.v (.int .i64 (giI l i 0))] := h.eta h0 h1
  rw [List.getD_eq_getElem?_getD, List.getElem?_eq_getElem (by omega)] at e
  have e1 : l[i.toNat]? = some [.v (.int .i64 (giI l i 0))] := by
    rw [List.getElem?_eq_getElem (by omega)]; exact congrArg some e
  refine ⟨[.v (.int .i64 (giI l i 0))], 0, ?_, Nat.le_refl _, ?_⟩
  · rw [getR_one, e1]; rfl
  · show [L.v (.int .i64 (giI l i 0))] = [L.v (.int .i64 (piI (.s 1 l) [(i.toNat, 0)]))]
    rw [pi_row h0]
end Go.V
