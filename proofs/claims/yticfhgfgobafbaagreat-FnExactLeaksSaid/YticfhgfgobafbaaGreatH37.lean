/-
  The addresses in use, as they are gathered and sorted.
-/import Derived.Test.YticfhgfgobafbaaGreatW2
set_option linter.all false
namespace Go.V
def iaK (sp : List (List L)) (i : Int) : Nat -> List Int
 | 0 => []
 | n + 1 => iaK sp i n ++ (if hsB (giI sp i 2) n then [aaI (giI sp i 0) (giI sp i 1) (giI sp i 2) n] else [])
def iaS (sp : List (List L)) : Nat -> List Int
 | 0 => []
 | n + 1 => iaS sp n ++ iaK sp n (slN (giI sp n 1)).toNat
def iaG (lg : List (List L)) : Nat -> List Int
 | 0 => []
 | n + 1 => iaG lg n ++ [giI lg n 0 * 16]
def iaA (sp lg : List (List L)) : List Int := iaS sp sp.length ++ iaG lg lg.length
def iaL (sp lg : List (List L)) : List (List L) := if layOk sp lg then srtL (rwL (iaA sp lg)) else []
theorem mul64a {a b : Int} (h : -9223372036854775808 <= a * b /\ a * b <= 9223372036854775807) : arI .mul .i64 a b = a * b := IntWalk.i64_in _ h
theorem srtL_len {l : List (List L)} : (srtL l).length = l.length := by unfold srtL; rw [rwL_len, List.length_mergeSort]; unfold intsOf; rw [List.length_map]
def bdA (l : List Int) : Prop := ∀ x ∈ l, -1 <= x /\ x <= 1000
theorem bdA_app {a b : List Int} (h : bdA a) (g : bdA b) : bdA (a ++ b) := fun x hx => by
 rcases List.mem_append.1 hx with q | q
 ·exact h x q
 ·exact g x q
theorem bdA_1 {x : Int} (h : -1 <= x /\ x <= 1000) : bdA [x] := fun y hy => by simp at hy; rw [hy]; exact h
theorem aa_b {p k b s : Int} : -1 <= aaI p k b s /\ aaI p k b s <= 1000 := by
 unfold aaI
 by_cases h : aaB p k b s = true
 ·rw [if_pos h]
  unfold aaB at h
  simp only [Bool.and_eq_true] at h
  have t := sp_t h.1
  have c := cls_b t.2.2.1
  have s1 := inR_t.1 h.2
  have m0 : 0 <= s * clsSz k := Int.mul_nonneg (by omega) (by omega)
  have m1 : s * clsSz k <= slN k * clsSz k := Int.mul_le_mul_of_nonneg_right (by omega) (by omega)
  omega
 ·rw [if_neg h]; omega
theorem iaK_up {sp : List (List L)} {i k : Int} (h : 0 <= k) : iaK sp i (k + 1).toNat = iaK sp i k.toNat ++ (if hsB (giI sp i 2) k then [aaI (giI sp i 0) (giI sp i 1) (giI sp i 2) k] else []) := by
 rw [show (k + 1).toNat = k.toNat + 1 from by omega, iaK, Int.toNat_of_nonneg h]
theorem iaS_up {sp : List (List L)} {i : Int} (h : 0 <= i) : iaS sp (i + 1).toNat = iaS sp i.toNat ++ iaK sp i (slN (giI sp i 1)).toNat := by
 rw [show (i + 1).toNat = i.toNat + 1 from by omega, iaS, Int.toNat_of_nonneg h]
theorem iaG_up {lg : List (List L)} {i : Int} (h : 0 <= i) : iaG lg (i + 1).toNat = iaG lg i.toNat ++ [giI lg i 0 * 16] := by
 rw [show (i + 1).toNat = i.toNat + 1 from by omega, iaG, Int.toNat_of_nonneg h]
structure IaP (sp : List (List L)) (i : Int) (o : List (List L)) : Prop where
 e : o = rwL (iaS sp i.toNat)
 b : bdA (iaS sp i.toNat)
 l : (iaS sp i.toNat).length <= 16 * i.toNat
structure IbP (sp : List (List L)) (i k : Int) (o : List (List L)) : Prop where
 e : o = rwL (iaS sp i.toNat ++ iaK sp i k.toNat)
 b : bdA (iaS sp i.toNat ++ iaK sp i k.toNat)
 l : (iaS sp i.toNat).length <= 16 * i.toNat
 k : (iaK sp i k.toNat).length <= k.toNat
structure IcP (sp lg : List (List L)) (j : Int) (o : List (List L)) : Prop where
 e : o = rwL (iaS sp sp.length ++ iaG lg j.toNat)
 b : bdA (iaS sp sp.length ++ iaG lg j.toNat)
 l : (iaS sp sp.length ++ iaG lg j.toNat).length <= 16 * sp.length + j.toNat
theorem ia_0 {sp : List (List L)} : IaP sp 0 [] := ⟨rfl, (fun x hx => by cases hx), Nat.zero_le _⟩
theorem ib_0 {sp o : List (List L)} {i : Int} (h : IaP sp i o) : IbP sp i 0 o :=
 ⟨by rw [h.e]; simp [iaK], by simpa [iaK] using h.b, h.l, Nat.zero_le _⟩
theorem ib_len {sp o : List (List L)} {i k : Int} (h : IbP sp i k o) : o.length <= 16 * i.toNat + k.toNat := by
 have l := h.l; have m := h.k
 rw [h.e, rwL_len, List.length_append]; omega
theorem ib_yes {sp o : List (List L)} {i k : Int} (h : IbP sp i k o) (k0 : 0 <= k) (hh : hsB (giI sp i 2) k = true) : IbP sp i (k + 1) (o ++ [[.v (.int .i64 (aaI (giI sp i 0) (giI sp i 1) (giI sp i 2) k))]]) := by
 have m := h.k; have e := h.e
 refine ⟨?_, ?_, h.l, ?_⟩
 ·rw [iaK_up k0, if_pos hh, <- List.append_assoc, rwL_app, <- e]; rfl
 ·rw [iaK_up k0, if_pos hh, <- List.append_assoc]; exact bdA_app h.b (bdA_1 aa_b)
 ·rw [iaK_up k0, if_pos hh, List.length_append, List.length_cons, List.length_nil]; omega
theorem ib_no {sp o : List (List L)} {i k : Int} (h : IbP sp i k o) (k0 : 0 <= k) (hh : hsB (giI sp i 2) k = false) : IbP sp i (k + 1) o := by
 have m := h.k; have e := h.e
 have u : iaK sp i (k + 1).toNat = iaK sp i k.toNat := by rw [iaK_up k0, hh]; simp
 refine ⟨?_, ?_, h.l, ?_⟩
 ·rw [u]; exact e
 ·rw [u]; exact h.b
 ·rw [u]; omega
theorem sl_b {sp lg : List (List L)} {i : Int} (hl : layOk sp lg = true) (h0 : 0 <= i) (h1 : i < sp.length) : 0 <= slN (giI sp i 1) /\ slN (giI sp i 1) <= 16 := by
 have t := sp_t ((lay_t hl).1 i h0 h1)
 have c := cls_b t.2.2.1
 omega
theorem ib_end {sp o : List (List L)} {i k : Int} (h : IbP sp i k o) (i0 : 0 <= i) (k1 : k <= slN (giI sp i 1)) (k2 : slN (giI sp i 1) <= k) (hs : 0 <= slN (giI sp i 1) /\ slN (giI sp i 1) <= 16) : IaP sp (i + 1) o := by
 have ek : k = slN (giI sp i 1) := by omega
 have e := h.e; have b := h.b; have l := h.l; have m := h.k
 rw [ek, <- iaS_up i0] at e b
 rw [ek] at m
 refine ⟨e, b, ?_⟩
 rw [iaS_up i0, List.length_append]; omega
theorem ic_0 {sp lg o : List (List L)} {i : Int} (h : IaP sp i o) (h1 : i <= sp.length) (h2 : (sp.length : Int) <= i) : IcP sp lg 0 o := by
 have ei : i.toNat = sp.length := by omega
 have e := h.e; have b := h.b; have l := h.l
 rw [ei] at e b l
 exact ⟨by rw [e]; simp [iaG], by simpa [iaG] using b, by simpa [iaG] using l⟩
theorem ic_len {sp lg o : List (List L)} {j : Int} (h : IcP sp lg j o) : o.length <= 16 * sp.length + j.toNat := by
 have l := h.l
 rw [h.e, rwL_len]; exact l
theorem lg_b {sp lg : List (List L)} {j : Int} (hl : layOk sp lg = true) (h0 : 0 <= j) (h1 : j < lg.length) : 0 <= giI lg j 0 /\ giI lg j 0 <= 32 := by
 have t := lg_t ((lay_t hl).2.1 j h0 h1)
 have b := pf_b t.1
 omega
theorem ic_up {sp lg o : List (List L)} {j : Int} (h : IcP sp lg j o) (j0 : 0 <= j) (hb : 0 <= giI lg j 0 /\ giI lg j 0 <= 32) : IcP sp lg (j + 1) (o ++ [[.v (.int .i64 (giI lg j 0 * 16))]]) := by
 have e := h.e; have l := h.l
 refine ⟨?_, ?_, ?_⟩
 ·rw [iaG_up j0, <- List.append_assoc, rwL_app, <- e]; rfl
 ·rw [iaG_up j0, <- List.append_assoc]; exact bdA_app h.b (bdA_1 (by omega))
 ·rw [iaG_up j0, <- List.append_assoc, List.length_append, List.length_cons, List.length_nil]; omega
theorem ic_rw {sp lg o : List (List L)} {j : Int} (h : IcP sp lg j o) (h1 : sp.length <= 1073741824) (h2 : j <= 1073741824) : Rw [tI] o /\ o.length <= 70368744177664 := by
 have l := ic_len h
 refine ⟨?_, by omega⟩
 have e := h.e
 have l2 := h.l
 rw [e]
 exact rwL_rw (fun x hx => by have := h.b x hx; omega) (by omega)
theorem ic_end {sp lg o : List (List L)} {j : Int} (h : IcP sp lg j o) (j1 : j <= lg.length) (j2 : (lg.length : Int) <= j) (hl : layOk sp lg = true) : srtL o = iaL sp lg := by
 have ej : j.toNat = lg.length := by omega
 have e := h.e
 rw [ej] at e
 unfold iaL iaA; rw [if_pos hl, <- e]
theorem ia_f {sp lg : List (List L)} (hl : layOk sp lg = false) : ([] : List (List L)) = iaL sp lg := by unfold iaL; rw [hl]; rfl
end Go.V