/-
  Plain facts about rows, pages, slots and heaps.
-/import Derived.Test.YticfhgfgobafbaaGreatW2
import Derived.Test.YticfhgfgobafbaaGreatHA
set_option linter.all false
namespace Go.V
def iaK (sp : List (List L)) (i : Int) : Nat -> List Int
 | 0 => []
 | n + 1 => iaK sp i n ++ (if hsB (giI sp i 2) n then [aaI (giI sp i 0) (giI sp i 1) (giI sp i 2) n] else [])
def iaS (sp : List (List L)) : Nat -> List Int
 | 0 => []
 | n + 1 => iaS sp n ++ iaK sp n (slN (giI sp n 1)).toNat
def iaG (lg : List (List L)) : Nat -> List Int
 | 0 => []
 | n + 1 => iaG lg n ++ [giI lg n 0 * 16]
def iaA (sp lg : List (List L)) : List Int := iaS sp sp.length ++ iaG lg lg.length
def iaL (sp lg : List (List L)) : List (List L) := if layOk sp lg then srtL (rwL (iaA sp lg)) else []
theorem mul64a {a b : Int} (h : -9223372036854775808 <= a * b /\ a * b <= 9223372036854775807) : arI .mul .i64 a b = a * b := IntWalk.i64_in _ h
theorem srtL_len {l : List (List L)} : (srtL l).length = l.length := by unfold srtL; rw [rwL_len, List.length_mergeSort]; unfold intsOf; rw [List.length_map]
def bdA (l : List Int) : Prop := ∀ x ∈ l, -1 <= x /\ x <= 1000
theorem bdA_app {a b : List Int} (h : bdA a) (g : bdA b) : bdA (a ++ b) := fun x hx => by
 rcases List.mem_append.1 hx with q | q
 ·exact h x q
 ·exact g x q
theorem bdA_1 {x : Int} (h : -1 <= x /\ x <= 1000) : bdA [x] := fun y hy => by simp at hy; rw [hy]; exact h
theorem aa_b {p k b s : Int} : -1 <= aaI p k b s /\ aaI p k b s <= 1000 := by
 unfold aaI
 by_cases h : aaB p k b s = true
 ·rw [if_pos h]
  unfold aaB at h
  simp only [Bool.and_eq_true] at h
  have t := sp_t h.1
  have c := cls_b t.2.2.1
  have s1 := inR_t.1 h.2
  have m0 : 0 <= s * clsSz k := Int.mul_nonneg (by omega) (by omega)
  have m1 : s * clsSz k <= slN k * clsSz k := Int.mul_le_mul_of_nonneg_right (by omega) (by omega)
  omega
 ·rw [if_neg h]; omega
theorem iaK_up {sp : List (List L)} {i k : Int} (h : 0 <= k) : iaK sp i (k + 1).toNat = iaK sp i k.toNat ++ (if hsB (giI sp i 2) k then [aaI (giI sp i 0) (giI sp i 1) (giI sp i 2) k] else []) := by
 rw [show (k + 1).toNat = k.toNat + 1 from by omega, iaK, Int.toNat_of_nonneg h]
theorem iaS_up {sp : List (List L)} {i : Int} (h : 0 <= i) : iaS sp (i + 1).toNat = iaS sp i.toNat ++ iaK sp i (slN (giI sp i 1)).toNat := by
 rw [show (i + 1).toNat = i.toNat + 1 from by omega, iaS, Int.toNat_of_nonneg h]
theorem iaG_up {lg : List (List L)} {i : Int} (h : 0 <= i) : iaG lg (i + 1).toNat = iaG lg i.toNat ++ [giI lg i 0 * 16] := by
 rw [show (i + 1).toNat = i.toNat + 1 from by omega, iaG, Int.toNat_of_nonneg h]
structure IaP (sp : List (List L)) (i : Int) (o : List (List L)) : Prop where
 e : o = rwL (iaS sp i.toNat)
 b : bdA (iaS sp i.toNat)
 l : (iaS sp i.toNat).length <= 16 * i.toNat
structure IbP (sp : List (List L)) (i k : Int) (o : List (List L)) : Prop where
 e : o = rwL (iaS sp i.toNat ++ iaK sp i k.toNat)
 b : bdA (iaS sp i.toNat ++ iaK sp i k.toNat)
 l : (iaS sp i.toNat).length <= 16 * i.toNat
 k : (iaK sp i k.toNat).length <= k.toNat
structure IcP (sp lg : List (List L)) (j : Int) (o : List (List L)) : Prop where
 e : o = rwL (iaS sp sp.length ++ iaG lg j.toNat)
 b : bdA (iaS sp sp.length ++ iaG lg j.toNat)
 l : (iaS sp sp.length ++ iaG lg j.toNat).length <= 16 * sp.length + j.toNat
theorem ia_0 {sp : List (List L)} : IaP sp 0 [] := ⟨rfl, (fun x hx => by cases hx), Nat.zero_le _⟩
theorem ib_0 {sp o : List (List L)} {i : Int} (h : IaP sp i o) : IbP sp i 0 o :=
 ⟨by rw [h.e]; simp [iaK], by simpa [iaK] using h.b, h.l, Nat.zero_le _⟩
theorem ib_len {sp o : List (List L)} {i k : Int} (h : IbP sp i k o) : o.length <= 16 * i.toNat + k.toNat := by
 have l := h.l; have m := h.k
 rw [h.e, rwL_len, List.length_append]; omega
theorem ib_yes {sp o : List (List L)} {i k : Int} (h : IbP sp i k o) (k0 : 0 <= k) (hh : hsB (giI sp i 2) k = true) : IbP sp i (k + 1) (o ++ [[.v (.int .i64 (aaI (giI sp i 0) (giI sp i 1) (giI sp i 2) k))]]) := by
 have m := h.k; have e := h.e
 refine ⟨?_, ?_, h.l, ?_⟩
 ·rw [iaK_up k0, if_pos hh, <- List.append_assoc, rwL_app, <- e]; rfl
 ·rw [iaK_up k0, if_pos hh, <- List.append_assoc]; exact bdA_app h.b (bdA_1 aa_b)
 ·rw [iaK_up k0, if_pos hh, List.length_append, List.length_cons, List.length_nil]; omega
theorem ib_no {sp o : List (List L)} {i k : Int} (h : IbP sp i k o) (k0 : 0 <= k) (hh : hsB (giI sp i 2) k = false) : IbP sp i (k + 1) o := by
 have m := h.k; have e := h.e
 have u : iaK sp i (k + 1).toNat = iaK sp i k.toNat := by rw [iaK_up k0, hh]; simp
 refine ⟨?_, ?_, h.l, ?_⟩
 ·rw [u]; exact e
 ·rw [u]; exact h.b
 ·rw [u]; omega
theorem sl_b {sp lg : List (List L)} {i : Int} (hl : layOk sp lg = true) (h0 : 0 <= i) (h1 : i < sp.length) : 0 <= slN (giI sp i 1) /\ slN (giI sp i 1) <= 16 := by
 have t := sp_t ((lay_t hl).1 i h0 h1)
 have c := cls_b t.2.2.1
 omega
theorem ib_end {sp o : List (List L)} {i k : Int} (h : IbP sp i k o) (i0 : 0 <= i) (k1 : k <= slN (giI sp i 1)) (k2 : slN (giI sp i 1) <= k) (hs : 0 <= slN (giI sp i 1) /\ slN (giI sp i 1) <= 16) : IaP sp (i + 1) o := by
 have ek : k = slN (giI sp i 1) := by omega
 have e := h.e; have b := h.b; have l := h.l; have m := h.k
 rw [ek, <- iaS_up i0] at e b
 rw [ek] at m
 refine ⟨e, b, ?_⟩
 rw [iaS_up i0, List.length_append]; omega
theorem ic_0 {sp lg o : List (List L)} {i : Int} (h : IaP sp i o) (h1 : i <= sp.length) (h2 : (sp.length : Int) <= i) : IcP sp lg 0 o := by
 have ei : i.toNat = sp.length := by omega
 have e := h.e; have b := h.b; have l := h.l
 rw [ei] at e b l
 exact ⟨by rw [e]; simp [iaG], by simpa [iaG] using b, by simpa [iaG] using l⟩
theorem ic_len {sp lg o : List (List L)} {j : Int} (h : IcP sp lg j o) : o.length <= 16 * sp.length + j.toNat := by
 have l := h.l
 rw [h.e, rwL_len]; exact l
theorem lg_b {sp lg : List (List L)} {j : Int} (hl : layOk sp lg = true) (h0 : 0 <= j) (h1 : j < lg.length) : 0 <= giI lg j 0 /\ giI lg j 0 <= 32 := by
 have t := lg_t ((lay_t hl).2.1 j h0 h1)
 have b := pf_b t.1
 omega
theorem ic_up {sp lg o : List (List L)} {j : Int} (h : IcP sp lg j o) (j0 : 0 <= j) (hb : 0 <= giI lg j 0 /\ giI lg j 0 <= 32) : IcP sp lg (j + 1) (o ++ [[.v (.int .i64 (giI lg j 0 * 16))]]) := by
 have e := h.e; have l := h.l
 refine ⟨?_, ?_, ?_⟩
 ·rw [iaG_up j0, <- List.append_assoc, rwL_app, <- e]; rfl
 ·rw [iaG_up j0, <- List.append_assoc]; exact bdA_app h.b (bdA_1 (by omega))
 ·rw [iaG_up j0, <- List.append_assoc, List.length_append, List.length_cons, List.length_nil]; omega
theorem ic_rw {sp lg o : List (List L)} {j : Int} (h : IcP sp lg j o) (h1 : sp.length <= 1073741824) (h2 : j <= 1073741824) : Rw [tI] o /\ o.length <= 70368744177664 := by
 have l := ic_len h
 refine ⟨?_, by omega⟩
 have e := h.e
 have l2 := h.l
 rw [e]
 exact rwL_rw (fun x hx => by have := h.b x hx; omega) (by omega)
theorem ic_end {sp lg o : List (List L)} {j : Int} (h : IcP sp lg j o) (j1 : j <= lg.length) (j2 : (lg.length : Int) <= j) (hl : layOk sp lg = true) : srtL o = iaL sp lg := by
 have ej : j.toNat = lg.length := by omega
 have e := h.e
 rw [ej] at e
 unfold iaL iaA; rw [if_pos hl, <- e]
theorem ia_f {sp lg : List (List L)} (hl : layOk sp lg = false) : ([] : List (List L)) = iaL sp lg := by unfold iaL; rw [hl]; rfl
end Go.V
namespace Go.V
theorem asc_unique : ∀ {a b : List Int}, a.Pairwise (· < ·) -> b.Pairwise (· < ·) -> (∀ x, x ∈ a ↔ x ∈ b) -> a = b
 | [], [], _, _, _ => rfl
 | [], y :: b, _, _, h => by have := (h y).2 (by simp); simp at this
 | x :: a, [], _, _, h => by have := (h x).1 (by simp); simp at this
 | x :: a, y :: b, ha, hb, h => by
   rw [List.pairwise_cons] at ha hb
   have e : x = y := by
    rcases List.mem_cons.1 ((h x).1 (by simp)) with q | q
    ·exact q
    ·rcases List.mem_cons.1 ((h y).2 (by simp)) with r | r
     ·exact r.symm
     ·have := hb.1 x q; have := ha.1 y r; omega
   subst e
   rw [asc_unique ha.2 hb.2 (fun z => ?_)]
   constructor
   ·intro m
    rcases List.mem_cons.1 ((h z).1 (by simp [m])) with q | q
    ·have := ha.1 z m; omega
    ·exact q
   ·intro m
    rcases List.mem_cons.1 ((h z).2 (by simp [m])) with q | q
    ·have := hb.1 z m; omega
    ·exact q
theorem mem_spP {sp : List (List L)} {x : Int} : ∀ {n : Nat}, x ∈ spP sp n ↔ ∃ i : Nat, i < n /\ giI sp i 0 = x
 | 0 => by simp [spP]
 | n + 1 => by
   rw [spP, List.mem_append, mem_spP, List.mem_singleton]
   constructor
   ·rintro (⟨i, h, e⟩ | rfl)
    ·exact ⟨i, by omega, e⟩
    ·exact ⟨n, by omega, rfl⟩
   ·rintro ⟨i, h, e⟩
    by_cases c : i = n
    ·subst c; exact .inr e.symm
    ·exact .inl ⟨i, by omega, e⟩
theorem mem_ptP {p x : Int} : ∀ {n : Nat}, x ∈ ptP p n ↔ p <= x /\ x < p + n
 | 0 => ⟨(fun h => by cases h), (fun h => absurd h (by omega))⟩
 | n + 1 => by
   rw [ptP, List.mem_append, mem_ptP, List.mem_singleton]; omega
theorem mem_lgP {lg : List (List L)} {x : Int} : ∀ {n : Nat}, x ∈ lgP lg n ↔ ∃ j : Nat, j < n /\ giI lg j 0 <= x /\ x < giI lg j 0 + (giI lg j 1).toNat
 | 0 => by simp [lgP]
 | n + 1 => by
   rw [lgP, List.mem_append, mem_lgP, mem_ptP]
   constructor
   ·rintro (⟨i, h, e⟩ | h)
    ·exact ⟨i, by omega, e⟩
    ·exact ⟨n, by omega, h⟩
   ·rintro ⟨i, h, e⟩
    by_cases c : i = n
    ·subst c; exact .inr e
    ·exact .inl ⟨i, by omega, e⟩
theorem sp_ne {sp : List (List L)} : ∀ {n : Nat}, (spP sp n).Nodup -> ∀ i i' : Nat, i < i' -> i' < n -> giI sp i 0 ≠ giI sp i' 0
 | 0, _, i, i', _, h => by omega
 | n + 1, hn, i, i', h1, h2 => by
   rw [spP, List.nodup_append] at hn
   by_cases c : i' = n
   ·subst c
    exact hn.2.2 _ (mem_spP.2 ⟨i, h1, rfl⟩) _ (by simp)
   ·exact sp_ne hn.1 i i' h1 (by omega)
theorem lg_ne {lg : List (List L)} : ∀ {n : Nat}, (lgP lg n).Nodup -> ∀ (j j' : Nat) (x : Int), j < j' -> j' < n -> giI lg j 0 <= x -> x < giI lg j 0 + (giI lg j 1).toNat -> giI lg j' 0 <= x -> x < giI lg j' 0 + (giI lg j' 1).toNat -> False
 | 0, _, j, j', x, _, h, _, _, _, _ => by omega
 | n + 1, hn, j, j', x, h1, h2, a, b, c, d => by
   rw [lgP, List.nodup_append] at hn
   by_cases e : j' = n
   ·subst e
    exact hn.2.2 x (mem_lgP.2 ⟨j, h1, a, b⟩) x (mem_ptP.2 ⟨c, d⟩) rfl
   ·exact lg_ne hn.1 j j' x h1 (by omega) a b c d
structure LyF (sp lg : List (List L)) : Prop where
 s : ∀ i : Nat, i < sp.length -> spOk (giI sp i 0) (giI sp i 1) (giI sp i 2) = true
 l : ∀ j : Nat, j < lg.length -> lgOk (giI lg j 0) (giI lg j 1) (giI lg j 2) = true
 ss : ∀ i i' : Nat, i < sp.length -> i' < sp.length -> giI sp i 0 = giI sp i' 0 -> i = i'
 sl : ∀ i j : Nat, i < sp.length -> j < lg.length -> giI lg j 0 <= giI sp i 0 -> giI sp i 0 < giI lg j 0 + giI lg j 1 -> False
 ll : ∀ (j j' : Nat) (x : Int), j < lg.length -> j' < lg.length -> giI lg j 0 <= x -> x < giI lg j 0 + giI lg j 1 -> giI lg j' 0 <= x -> x < giI lg j' 0 + giI lg j' 1 -> j = j'
theorem lyF {sp lg : List (List L)} (h : layOk sp lg = true) : LyF sp lg := by
 obtain ⟨h1, h2, h3⟩ := lay_t h
 unfold pgL at h3
 rw [List.nodup_append] at h3
 have n0 : ∀ j : Nat, j < lg.length -> ((giI lg j 1).toNat : Int) = giI lg j 1 := fun j hj => by
  have t := lg_t (h2 j (by omega) (by omega)); have b := pf_b t.1; omega
 refine ⟨fun i hi => h1 i (by omega) (by omega), fun j hj => h2 j (by omega) (by omega), fun i i' a b e => ?_, fun i j a b c d => ?_, fun j j' x a b c d e f => ?_⟩
 ·rcases Nat.lt_trichotomy i i' with q | q | q
  ·exact absurd e (sp_ne h3.1 i i' q b)
  ·exact q
  ·exact absurd e.symm (sp_ne h3.1 i' i q a)
 ·exact h3.2.2 _ (mem_spP.2 ⟨i, a, rfl⟩) _ (mem_lgP.2 ⟨j, b, c, by rw [n0 j b]; exact d⟩) rfl
 ·rcases Nat.lt_trichotomy j j' with q | q | q
  ·exact (lg_ne h3.2.1 j j' x q b c (by rw [n0 j a]; exact d) e (by rw [n0 j' b]; exact f)).elim
  ·exact q
  ·exact (lg_ne h3.2.1 j' j x q a e (by rw [n0 j' b]; exact f) c (by rw [n0 j a]; exact d)).elim
theorem aa_eq {p k b s : Int} (h : spOk p k b = true) (h0 : 0 <= s) (h1 : s < slN k) : aaI p k b s = p * 16 + s * clsSz k /\ 0 <= s * clsSz k /\ s * clsSz k + clsSz k <= 16 /\ 1 <= clsSz k := by
 have t := sp_t h
 have c := cls_b t.2.2.1
 have a : aaB p k b s = true := by unfold aaB; rw [h, inR_t.2 ⟨h0, by omega⟩]; rfl
 have m0 : 0 <= s * clsSz k := Int.mul_nonneg h0 (by omega)
 have m1 : (s + 1) * clsSz k <= slN k * clsSz k := Int.mul_le_mul_of_nonneg_right (by omega) (by omega)
 rw [Int.add_mul] at m1
 unfold aaI; rw [if_pos a]
 exact ⟨rfl, m0, by omega, by omega⟩
theorem mem_iaK {sp : List (List L)} {i x : Int} : ∀ {n : Nat}, x ∈ iaK sp i n ↔ ∃ k : Nat, k < n /\ hsB (giI sp i 2) k = true /\ x = aaI (giI sp i 0) (giI sp i 1) (giI sp i 2) k
 | 0 => by simp [iaK]
 | n + 1 => by
   rw [iaK, List.mem_append, mem_iaK]
   constructor
   ·rintro (⟨k, h, e⟩ | h)
    ·exact ⟨k, by omega, e⟩
    ·by_cases c : hsB (giI sp i 2) n = true
     ·rw [if_pos c, List.mem_singleton] at h
      exact ⟨n, by omega, c, h⟩
     ·rw [if_neg c] at h; simp at h
   ·rintro ⟨k, h, c, e⟩
    by_cases q : k = n
    ·subst q; rw [if_pos c]; exact .inr (by simp [e])
    ·exact .inl ⟨k, by omega, c, e⟩
theorem mem_iaS {sp : List (List L)} {x : Int} : ∀ {n : Nat}, x ∈ iaS sp n ↔ ∃ i k : Nat, i < n /\ k < (slN (giI sp i 1)).toNat /\ hsB (giI sp i 2) k = true /\ x = aaI (giI sp i 0) (giI sp i 1) (giI sp i 2) k
 | 0 => by simp [iaS]
 | n + 1 => by
   rw [iaS, List.mem_append, mem_iaS, mem_iaK]
   constructor
   ·rintro (⟨i, k, h, e⟩ | ⟨k, h⟩)
    ·exact ⟨i, k, by omega, e⟩
    ·exact ⟨n, k, by omega, h⟩
   ·rintro ⟨i, k, h, e⟩
    by_cases q : i = n
    ·subst q; exact .inr ⟨k, e⟩
    ·exact .inl ⟨i, k, by omega, e⟩
theorem mem_iaG {lg : List (List L)} {x : Int} : ∀ {n : Nat}, x ∈ iaG lg n ↔ ∃ j : Nat, j < n /\ x = giI lg j 0 * 16
 | 0 => by simp [iaG]
 | n + 1 => by
   rw [iaG, List.mem_append, mem_iaG, List.mem_singleton]
   constructor
   ·rintro (⟨i, h, e⟩ | h)
    ·exact ⟨i, by omega, e⟩
    ·exact ⟨n, by omega, h⟩
   ·rintro ⟨i, h, e⟩
    by_cases q : i = n
    ·subst q; exact .inr e
    ·exact .inl ⟨i, by omega, e⟩
theorem iaK_nd {sp : List (List L)} {i : Nat} (h : spOk (giI sp i 0) (giI sp i 1) (giI sp i 2) = true) : ∀ {n : Nat}, n <= (slN (giI sp i 1)).toNat -> (iaK sp i n).Nodup
 | 0, _ => List.nodup_nil
 | n + 1, hn => by
   rw [iaK]
   by_cases c : hsB (giI sp i 2) n = true
   ·rw [if_pos c]
    refine nd_snoc (iaK_nd h (by omega)) (fun m => ?_)
    obtain ⟨k, k1, _, k3⟩ := mem_iaK.1 m
    have a := aa_eq (s := (n : Int)) h (by omega) (by omega)
    have b := aa_eq (s := (k : Int)) h (by omega) (by omega)
    have q : ((k : Int) + 1) * clsSz (giI sp i 1) <= (n : Int) * clsSz (giI sp i 1) := Int.mul_le_mul_of_nonneg_right (by omega) (by omega)
    rw [Int.add_mul] at q
    omega
   ·rw [if_neg c, List.append_nil]; exact iaK_nd h (by omega)
theorem iaS_nd {sp lg : List (List L)} (F : LyF sp lg) : ∀ {n : Nat}, n <= sp.length -> (iaS sp n).Nodup
 | 0, _ => List.nodup_nil
 | n + 1, hn => by
   rw [iaS, List.nodup_append]
   refine ⟨iaS_nd F (by omega), iaK_nd (F.s n (by omega)) (Nat.le_refl _), fun x hx y hy e => ?_⟩
   subst e
   obtain ⟨i, k, i1, k1, _, e1⟩ := mem_iaS.1 hx
   obtain ⟨k', k2, _, e2⟩ := mem_iaK.1 hy
   have a := aa_eq (s := (k : Int)) (F.s i (by omega)) (by omega) (by omega)
   have b := aa_eq (s := (k' : Int)) (F.s n (by omega)) (by omega) (by omega)
   have := F.ss i n (by omega) (by omega) (by omega)
   omega
theorem iaG_nd {sp lg : List (List L)} (F : LyF sp lg) : ∀ {n : Nat}, n <= lg.length -> (iaG lg n).Nodup
 | 0, _ => List.nodup_nil
 | n + 1, hn => by
   rw [iaG]
   refine nd_snoc (iaG_nd F (by omega)) (fun m => ?_)
   obtain ⟨j, j1, e⟩ := mem_iaG.1 m
   have t := lg_t (F.l j (by omega)); have b := pf_b t.1
   have t' := lg_t (F.l n (by omega)); have b' := pf_b t'.1
   have := F.ll j n (giI lg j 0) (by omega) (by omega) (by omega) (by omega) (by omega) (by omega)
   omega
theorem iaA_nd {sp lg : List (List L)} (F : LyF sp lg) : (iaA sp lg).Nodup := by
 unfold iaA
 rw [List.nodup_append]
 refine ⟨iaS_nd F (Nat.le_refl _), iaG_nd F (Nat.le_refl _), fun x hx y hy e => ?_⟩
 subst e
 obtain ⟨i, k, i1, k1, _, e1⟩ := mem_iaS.1 hx
 obtain ⟨j, j1, e2⟩ := mem_iaG.1 hy
 have a := aa_eq (s := (k : Int)) (F.s i (by omega)) (by omega) (by omega)
 have t := lg_t (F.l j (by omega)); have b := pf_b t.1
 exact F.sl i j i1 j1 (by omega) (by omega)
end Go.V
namespace Go.V
theorem first_p {p : Int -> Bool} {n : Nat} (h : 0 <= firstI p n) : firstI p n < n /\ p (firstI p n) = true := by
 refine ⟨by rcases first_bd (p := p) (n := n) with q | q <;> omega, ?_⟩
 unfold firstI at h ⊢
 split at h
 ·rename_i j e
  have q := List.find?_some e
  exact q
 ·omega
theorem first_ge {p : Int -> Bool} {n i : Nat} (h : i < n) (hp : p i = true) : 0 <= firstI p n := by
 unfold firstI
 split
 ·omega
 ·rename_i e
  rw [List.find?_eq_none] at e
  exact absurd hp (e i (List.mem_range.2 h))
theorem sAt_t {sp : List (List L)} {a i : Int} : sAt sp a i = true ↔ saB (giI sp i 0) (giI sp i 1) (giI sp i 2) a = true := by
 unfold sAt
 rw [decide_eq_true_eq]
 constructor
 ·intro h
  cases c : saB (giI sp i 0) (giI sp i 1) (giI sp i 2) a with
  | true => rfl
  | false => rw [(sa_no c).1] at h; omega
 ·intro h
  obtain ⟨h1, h2, h3⟩ := sa_t.1 h
  have cb := cls_b (sp_t h1).2.2.1
  rw [(sa_yes h).1]
  exact Int.ediv_nonneg (by omega) (by omega)
def lvP (sp lg : List (List L)) (x : Int) : Prop := (∃ i k : Nat, i < sp.length /\ k < (slN (giI sp i 1)).toNat /\ hsB (giI sp i 2) k = true /\ x = aaI (giI sp i 0) (giI sp i 1) (giI sp i 2) k) \/ ∃ j : Nat, j < lg.length /\ x = giI lg j 0 * 16
theorem mem_iaA {sp lg : List (List L)} {x : Int} : x ∈ iaA sp lg ↔ lvP sp lg x := by
 unfold iaA lvP
 rw [List.mem_append, mem_iaS, mem_iaG]
theorem dn_s {sp lg : List (List L)} {a : Int} (h : 0 <= fsI sp a) : dnK sp lg a = (if hsB (giI sp (fsI sp a) 2) (slA sp a (fsI sp a)) then 1 else 2) /\ dnO sp lg a = soA sp a (fsI sp a) := by
 unfold dnK dnO; rw [if_pos h, if_pos h]; exact ⟨rfl, rfl⟩
theorem dn_l {sp lg : List (List L)} {a : Int} (h : ¬ 0 <= fsI sp a) (g : 0 <= flI lg a) : dnK sp lg a = 3 /\ dnO sp lg a = loA lg a (flI lg a) := by
 unfold dnK dnO; rw [if_neg h, if_neg h, if_pos g, if_pos g]; exact ⟨rfl, rfl⟩
theorem dn_0 {sp lg : List (List L)} {a : Int} (h : ¬ 0 <= fsI sp a) (g : ¬ 0 <= flI lg a) : dnK sp lg a = 0 /\ dnO sp lg a = 0 := by
 unfold dnK dnO; rw [if_neg h, if_neg h, if_neg g, if_neg g]; exact ⟨rfl, rfl⟩
theorem lv_dn {sp lg : List (List L)} {a : Int} (hl : layOk sp lg = true) : lvB sp lg a = true ↔ dnO sp lg a = 0 /\ (dnK sp lg a = 1 \/ dnK sp lg a = 3) := by
 unfold lvB dzO dzK
 rw [if_pos hl, if_pos hl]
 simp only [Bool.and_eq_true, Bool.or_eq_true, decide_eq_true_eq]
theorem lv_to {sp lg : List (List L)} {x : Int} (F : LyF sp lg) (hl : layOk sp lg = true) (h : lvB sp lg x = true) : lvP sp lg x := by
 obtain ⟨h1, h2⟩ := (lv_dn hl).1 h
 by_cases c : 0 <= fsI sp x
 ·obtain ⟨d1, d2⟩ := dn_s (lg := lg) c
  obtain ⟨b, q⟩ := first_p c
  change fsI sp x < sp.length at b
  change sAt sp x (fsI sp x) = true at q
  rw [d1] at h2; rw [d2] at h1
  generalize hF : fsI sp x = f at *
  obtain ⟨f, rfl⟩ := Int.eq_ofNat_of_zero_le c
  have bf : f < sp.length := by omega
  have q' := sAt_t.1 q
  obtain ⟨a1, a2, a3⟩ := sa_t.1 q'
  obtain ⟨e1, e2⟩ := sa_yes q'
  have cb := cls_b (sp_t a1).2.2.1
  have hh : hsB (giI sp f 2) (slA sp x f) = true := by
   cases c : hsB (giI sp f 2) (slA sp x f) with
   | true => rfl
   | false => rw [c] at h2; simp at h2
  unfold soA at h1
  rw [e2] at h1
  unfold slA at hh
  rw [e1] at hh
  have dv : clsSz (giI sp f 1) * ((x - giI sp f 0 * 16) / clsSz (giI sp f 1)) = x - giI sp f 0 * 16 := Int.mul_ediv_cancel_of_emod_eq_zero h1
  have nn : 0 <= (x - giI sp f 0 * 16) / clsSz (giI sp f 1) := Int.ediv_nonneg (by omega) (by omega)
  generalize hs : (x - giI sp f 0 * 16) / clsSz (giI sp f 1) = s at *
  have lt : s < slN (giI sp f 1) := by
   by_cases w : s < slN (giI sp f 1)
   ·exact w
   ·have m : slN (giI sp f 1) * clsSz (giI sp f 1) <= s * clsSz (giI sp f 1) := Int.mul_le_mul_of_nonneg_right (by omega) (by omega)
    rw [Int.mul_comm s] at m
    omega
  obtain ⟨s, rfl⟩ := Int.eq_ofNat_of_zero_le nn
  have ae := aa_eq a1 nn lt
  refine .inl ⟨f, s, bf, by omega, hh, ?_⟩
  have ae1 := ae.1
  rw [Int.mul_comm (s : Int)] at ae1
  show x = aaI (giI sp f 0) (giI sp f 1) (giI sp f 2) s
  rw [ae1]
  omega
 ·by_cases g : 0 <= flI lg x
  ·obtain ⟨d1, d2⟩ := dn_l c g
   obtain ⟨b, q⟩ := first_p g
   change flI lg x < lg.length at b
   change lAt lg x (flI lg x) = true at q
   rw [d2] at h1
   generalize hF : flI lg x = f at *
   obtain ⟨f, rfl⟩ := Int.eq_ofNat_of_zero_le g
   refine .inr ⟨f, by omega, ?_⟩
   unfold loA loI at h1
   unfold lAt at q
   rw [if_pos q] at h1
   show x = giI lg f 0 * 16
   omega
  ·obtain ⟨d1, d2⟩ := dn_0 c g
   rw [d1] at h2; omega
theorem fs_pg {sp lg : List (List L)} {x : Int} (h : 0 <= fsI sp x) : ∃ f : Nat, fsI sp x = f /\ f < sp.length /\ saB (giI sp f 0) (giI sp f 1) (giI sp f 2) x = true := by
 obtain ⟨b, q⟩ := first_p h
 obtain ⟨f, e⟩ := Int.eq_ofNat_of_zero_le h
 refine ⟨f, e, ?_, ?_⟩
 ·have : fsI sp x < sp.length := b
  rw [e] at this; exact Int.ofNat_lt.1 this
 ·have : sAt sp x (fsI sp x) = true := q
  rw [e] at this; exact sAt_t.1 this
theorem lv_of {sp lg : List (List L)} {x : Int} (F : LyF sp lg) (hl : layOk sp lg = true) (h : lvP sp lg x) : lvB sp lg x = true := by
 rw [lv_dn hl]
 rcases h with ⟨i, k, i1, k1, hh, e⟩ | ⟨j, j1, e⟩
 ·have a1 := F.s i i1
  have cb := cls_b (sp_t a1).2.2.1
  have ae := aa_eq (s := (k : Int)) a1 (by omega) (by omega)
  have sb : saB (giI sp i 0) (giI sp i 1) (giI sp i 2) x = true := sa_t.2 ⟨a1, by omega, by omega⟩
  have c : 0 <= fsI sp x := first_ge i1 (sAt_t.2 sb)
  obtain ⟨f, e1, f1, f2⟩ := fs_pg (lg := lg) c
  obtain ⟨_, g2, g3⟩ := sa_t.1 f2
  have : f = i := F.ss f i f1 i1 (by omega)
  subst this
  obtain ⟨d1, d2⟩ := dn_s (lg := lg) c
  rw [d1, d2, e1]
  obtain ⟨y1, y2⟩ := sa_yes sb
  have xe : x - giI sp f 0 * 16 = k * clsSz (giI sp f 1) := by omega
  unfold slA soA
  rw [y1, y2, xe, Int.mul_ediv_cancel _ (by omega), if_pos hh]
  exact ⟨Int.mul_emod_left _ _, .inl rfl⟩
 ·have t := lg_t (F.l j j1); have b := pf_b t.1; have r := inR_t.1 t.1
  have c : ¬ 0 <= fsI sp x := fun c => by
   obtain ⟨f, e1, f1, f2⟩ := fs_pg (lg := lg) c
   obtain ⟨_, g2, g3⟩ := sa_t.1 f2
   exact F.sl f j f1 j1 (by omega) (by omega)
  have lb : lhB (giI lg j 0) (giI lg j 1) (giI lg j 2) x = true := lh_t.2 ⟨F.l j j1, by omega, by omega⟩
  have g : 0 <= flI lg x := first_ge j1 (show lAt lg x j = true from lb)
  obtain ⟨d1, d2⟩ := dn_l c g
  obtain ⟨b1, q⟩ := first_p g
  change flI lg x < lg.length at b1
  change lAt lg x (flI lg x) = true at q
  rw [d1, d2]
  generalize hF : flI lg x = f at *
  obtain ⟨f, rfl⟩ := Int.eq_ofNat_of_zero_le g
  have f1 : f < lg.length := by omega
  have q' : lhB (giI lg f 0) (giI lg f 1) (giI lg f 2) x = true := q
  obtain ⟨_, u1, u2⟩ := lh_t.1 q'
  have t2 := lg_t (F.l f f1); have b2 := pf_b t2.1
  have : f = j := F.ll f j (giI lg j 0) f1 j1 (by omega) (by omega) (by omega) (by omega)
  subst this
  refine ⟨?_, .inr rfl⟩
  show loI (giI lg f 0) (giI lg f 1) (giI lg f 2) x = 0
  unfold loI; rw [if_pos lb]; omega
def lvN (sp lg : List (List L)) : Nat -> List Int
 | 0 => []
 | n + 1 => lvN sp lg n ++ (if lvB sp lg n then [(n : Int)] else [])
theorem laN_eq {sp lg : List (List L)} : ∀ n : Nat, laN sp lg n = rwL (lvN sp lg n)
 | 0 => rfl
 | n + 1 => by
   rw [laN, lvN, rwL_app, laN_eq n]
   by_cases c : lvB sp lg n = true
   ·rw [if_pos c, if_pos c]; rfl
   ·rw [if_neg c, if_neg c]; rfl
theorem mem_lvN {sp lg : List (List L)} {x : Int} : ∀ {n : Nat}, x ∈ lvN sp lg n ↔ 0 <= x /\ x < n /\ lvB sp lg x = true
 | 0 => ⟨(fun h => by cases h), (fun h => absurd h.2.1 (by omega))⟩
 | n + 1 => by
   rw [lvN, List.mem_append, mem_lvN]
   constructor
   ·rintro (h | h)
    ·exact ⟨h.1, by omega, h.2.2⟩
    ·by_cases c : lvB sp lg n = true
     ·rw [if_pos c, List.mem_singleton] at h
      subst h; exact ⟨by omega, by omega, c⟩
     ·rw [if_neg c] at h; cases h
   ·rintro ⟨h1, h2, h3⟩
    by_cases q : x = n
    ·subst q; rw [if_pos h3]; exact .inr (by simp)
    ·exact .inl ⟨h1, by omega, h3⟩
theorem pw_lvN {sp lg : List (List L)} : ∀ n : Nat, (lvN sp lg n).Pairwise (· < ·)
 | 0 => List.Pairwise.nil
 | n + 1 => by
   rw [lvN, List.pairwise_append]
   refine ⟨pw_lvN n, ?_, fun a ha b hb => ?_⟩
   ·by_cases c : lvB sp lg n = true
    ·rw [if_pos c]; simp
    ·rw [if_neg c]; simp
   ·have m := mem_lvN.1 ha
    by_cases c : lvB sp lg n = true
    ·rw [if_pos c, List.mem_singleton] at hb; omega
    ·rw [if_neg c] at hb; cases hb
theorem pw_sort {l : List Int} (h : l.Nodup) : (l.mergeSort fun x y => decide (x <= y)).Pairwise (· < ·) := by
 have p := List.pairwise_mergeSort (le := fun x y : Int => decide (x <= y)) (fun a b c h1 h2 => by simp only [decide_eq_true_eq] at *; omega) (fun a b => by simp only [Bool.or_eq_true, decide_eq_true_eq]; omega) l
 have n : (l.mergeSort fun x y => decide (x <= y)).Nodup := (List.mergeSort_perm l _).nodup_iff.2 h
 refine List.Pairwise.imp₂ (R := fun a b => decide (a <= b) = true) (S := (· ≠ ·)) (T := (· < ·)) (fun a b h1 h2 => ?_) p n
 simp only [decide_eq_true_eq] at h1
 omega
theorem live_eq {sp lg : List (List L)} : iaL sp lg = laL sp lg := by
 unfold iaL laL
 by_cases hl : layOk sp lg = true
 ·rw [if_pos hl, if_pos hl]
  have F := lyF hl
  unfold srtL
  rw [intsOf_rwL, laN_eq]
  refine congrArg rwL (asc_unique (pw_sort (iaA_nd F)) (pw_lvN 512) (fun x => ?_))
  rw [(List.mergeSort_perm _ _).mem_iff, mem_iaA, mem_lvN]
  constructor
  ·intro h
   have v := lv_of F hl h
   refine ⟨?_, ?_, v⟩
   ·rcases h with ⟨i, k, i1, k1, _, e⟩ | ⟨j, j1, e⟩
    ·have ae := aa_eq (s := (k : Int)) (F.s i i1) (by omega) (by omega)
     have t := sp_t (F.s i i1); omega
    ·have t := lg_t (F.l j j1); omega
   ·rcases h with ⟨i, k, i1, k1, _, e⟩ | ⟨j, j1, e⟩
    ·have ae := aa_eq (s := (k : Int)) (F.s i i1) (by omega) (by omega)
     have t := sp_t (F.s i i1); omega
    ·have t := lg_t (F.l j j1); have b := pf_b t.1; omega
  ·rintro ⟨_, _, h⟩
   exact lv_to F hl h
 ·rw [if_neg hl, if_neg hl]
end Go.V
namespace Go.V
def isQt (qs : List (List L)) (a j : Int) : Bool := eqB (giI qs j 0) a
def qtI (qs : List (List L)) (a : Int) : Int := firstI (isQt qs a) qs.length
def qtB (qs : List (List L)) (a : Int) : Bool := decide (0 <= qtI qs a)
theorem qt_yes {qs : List (List L)} {a i : Int} (h : upto (notB (isQt qs a)) i) (h0 : 0 <= i) (h1 : i < qs.length) (e : giI qs i 0 = a) : qtB qs a = true := by
 unfold qtB qtI; rw [first_at h h0 h1 (eqB_t e)]; exact decide_eq_true h0
theorem qt_no {qs : List (List L)} {a i : Int} (h : upto (notB (isQt qs a)) i) (h1 : (qs.length : Int) <= i) : qtB qs a = false := by
 unfold qtB qtI; rw [first_no h h1]; rfl
end Go.V
namespace Go.V
structure NsL (ls : List (List L)) : Prop where
 w : Rw [.sl [tI]] ls
 l : ls.length <= 1099511627776
 n : ∀ i : Int, (gsI ls i 0).length <= 1099511627776
theorem NsL.el {ls : List (List L)} (h : NsL ls) {i : Int} (h0 : 0 <= i) (h1 : i < ls.length) : Rw [tI] (gsI ls i 0) /\ (gsI ls i 0).length <= 1099511627776 :=
 ⟨Rw.sub (fs := [.sl [tI]]) h.w (by omega) rfl, h.n i⟩
end Go.V
namespace Go.V
def pOk (b : List (List L)) (i k : Int) : Bool := inR (giI (gsI b i 0) k 0) 0 ((b.length : Int) - 1) && decide (0 <= giI (gsI b i 0) k 1)
def aOk (x : List (List L)) (i k : Int) : Bool := decide (0 <= giI (gsI x i 0) k 0)
def rOk (b x : List (List L)) (i : Int) : Bool := allI (pOk b i) (gsI b i 0).length && allI (aOk x i) (gsI x i 0).length
def mtN (b x : List (List L)) : Nat -> Int
 | 0 => 0
 | n + 1 => mtN b x n + ((gsI b n 0).length + (gsI x n 0).length)
def mailOk (b x : List (List L)) : Bool := inR b.length 1 4 && (decide (x.length = b.length) && (allI (rOk b x) b.length && decide (mtN b x b.length <= 30)))
structure NsM (b x : List (List L)) : Prop where
 bw : Rw [.sl [tI, tI]] b
 xw : Rw [.sl [tI]] x
 bl : b.length <= 1099511627776
 xl : x.length <= 1099511627776
 bn : ∀ i : Int, (gsI b i 0).length <= 1099511627776
 xn : ∀ i : Int, (gsI x i 0).length <= 1099511627776
theorem mtN_b {b x : List (List L)} (h : NsM b x) : ∀ n : Nat, 0 <= mtN b x n /\ mtN b x n <= 2199023255552 * n
 | 0 => ⟨Int.le_refl _, Int.le_refl _⟩
 | n + 1 => by
   have q := mtN_b h n
   have p1 := h.bn n; have p2 := h.xn n
   rw [mtN]; omega
structure MlP (b x : List (List L)) (i t : Int) : Prop where
 ok : upto (rOk b x) i
 t : t = mtN b x i.toNat
theorem ml_0 {b x : List (List L)} : MlP b x 0 0 := ⟨upto_z, rfl⟩
theorem ml_b {b x : List (List L)} {i t : Int} (N : NsM b x) (h : MlP b x i t) (i0 : 0 <= i) (i1 : i <= 4) : 0 <= t /\ t <= 8796093022208 := by
 have q := mtN_b N i.toNat; have e := h.t; omega
theorem ml_up {b x : List (List L)} {i t k j : Int} (h : MlP b x i t) (i0 : 0 <= i) (hp : upto (pOk b i) k) (k1 : ((gsI b i 0).length : Int) <= k) (ha : upto (aOk x i) j) (j1 : ((gsI x i 0).length : Int) <= j) : MlP b x (i + 1) (t + ((gsI b i 0).length + (gsI x i 0).length)) := by
 refine ⟨upto_s h.ok ?_, ?_⟩
 ·unfold rOk; rw [allI_of hp k1, allI_of ha j1]; rfl
 ·rw [show (i + 1).toNat = i.toNat + 1 from by omega, mtN, <- h.t, Int.toNat_of_nonneg i0]
theorem ml_no1 {b x : List (List L)} (h : inR b.length 1 4 = false) : mailOk b x = false := by unfold mailOk; rw [h]; rfl
theorem ml_no2 {b x : List (List L)} (h : (x.length : Int) ≠ b.length) : mailOk b x = false := by
 unfold mailOk; rw [decide_eq_false (p := x.length = b.length) (by omega)]; simp
theorem ml_no {b x : List (List L)} {i : Int} (i0 : 0 <= i) (i1 : i < b.length) (h : rOk b x i = false) : mailOk b x = false := by
 unfold mailOk; rw [allI_f i0 i1 h]; simp
theorem ml_no3 {b x : List (List L)} {i k : Int} (i0 : 0 <= i) (i1 : i < b.length) (k0 : 0 <= k) (k1 : k < (gsI b i 0).length) (h : pOk b i k = false) : mailOk b x = false :=
 ml_no i0 i1 (by unfold rOk; rw [allI_f k0 k1 h]; rfl)
theorem ml_no4 {b x : List (List L)} {i k : Int} (i0 : 0 <= i) (i1 : i < b.length) (k0 : 0 <= k) (k1 : k < (gsI x i 0).length) (h : aOk x i k = false) : mailOk b x = false :=
 ml_no i0 i1 (by unfold rOk; rw [allI_f k0 k1 h, Bool.and_false])
theorem ml_end {b x : List (List L)} {i t : Int} (h : MlP b x i t) (h1 : inR b.length 1 4 = true) (h2 : (x.length : Int) = b.length) (i1 : i <= b.length) (i2 : (b.length : Int) <= i) : mailOk b x = decide (t <= 30) := by
 have e : i.toNat = b.length := by omega
 have q := h.t
 rw [e] at q
 unfold mailOk
 rw [h1, decide_eq_true (p := x.length = b.length) (by omega), allI_of h.ok i2, <- q]; rfl
theorem p_no1 {b : List (List L)} {i k : Int} (h : inR (giI (gsI b i 0) k 0) 0 ((b.length : Int) - 1) = false) : pOk b i k = false := by unfold pOk; rw [h]; rfl
theorem p_no2 {b : List (List L)} {i k : Int} (h : giI (gsI b i 0) k 1 < 0) : pOk b i k = false := by unfold pOk; rw [decide_eq_false (by omega), Bool.and_false]
theorem p_yes {b : List (List L)} {i k : Int} (h : inR (giI (gsI b i 0) k 0) 0 ((b.length : Int) - 1) = true) (g : 0 <= giI (gsI b i 0) k 1) : pOk b i k = true := by unfold pOk; rw [h, decide_eq_true g]; rfl
theorem a_no {x : List (List L)} {i k : Int} (h : giI (gsI x i 0) k 0 < 0) : aOk x i k = false := by unfold aOk; rw [decide_eq_false (by omega)]
theorem a_yes {x : List (List L)} {i k : Int} (h : 0 <= giI (gsI x i 0) k 0) : aOk x i k = true := by unfold aOk; rw [decide_eq_true h]
end Go.V
namespace Go.V
def fpK (b : List (List L)) (i : Int) : Nat -> List (List L)
 | 0 => []
 | n + 1 => fpK b i n ++ [[.v (.int .i64 (giI (gsI b i 0) n 1))]]
def fbN (b : List (List L)) : Nat -> List (List L)
 | 0 => []
 | n + 1 => fbN b n ++ fpK b n (gsI b n 0).length
def fxN (x : List (List L)) : Nat -> List (List L)
 | 0 => []
 | n + 1 => fxN x n ++ gsI x n 0
def ifL (b x : List (List L)) : List (List L) := if mailOk b x then fbN b b.length ++ fxN x x.length else []
theorem ml_t {b x : List (List L)} (h : mailOk b x = true) : b.length <= 4 /\ x.length = b.length := by
 unfold mailOk at h
 simp only [Bool.and_eq_true, decide_eq_true_eq, inR_t] at h
 omega
structure FbP (b : List (List L)) (i : Int) (o : List (List L)) : Prop where
 e : o = fbN b i.toNat
 l : o.length <= 1099511627776 * i.toNat
structure FkP (b : List (List L)) (i k : Int) (o : List (List L)) : Prop where
 e : o = fbN b i.toNat ++ fpK b i k.toNat
 l : o.length <= 1099511627776 * i.toNat + k.toNat
structure FxP (b x : List (List L)) (j : Int) (o : List (List L)) : Prop where
 e : o = fbN b b.length ++ fxN x j.toNat
 l : o.length <= 1099511627776 * b.length + 1099511627776 * j.toNat
theorem fb_0 {b : List (List L)} : FbP b 0 [] := ⟨rfl, Nat.zero_le _⟩
theorem fk_0 {b o : List (List L)} {i : Int} (h : FbP b i o) : FkP b i 0 o := ⟨by rw [h.e]; simp [fpK], by have := h.l; omega⟩
theorem fk_up {b o : List (List L)} {i k : Int} (h : FkP b i k o) (k0 : 0 <= k) : FkP b i (k + 1) (o ++ [[.v (.int .i64 (giI (gsI b i 0) k 1))]]) := by
 have l := h.l; have e := h.e
 refine ⟨?_, ?_⟩
 ·rw [show (k + 1).toNat = k.toNat + 1 from by omega, fpK, Int.toNat_of_nonneg k0, <- List.append_assoc, <- e]
 ·rw [List.length_append, List.length_cons, List.length_nil]; omega
theorem fk_end {b o : List (List L)} {i k : Int} (h : FkP b i k o) (i0 : 0 <= i) (hn : (gsI b i 0).length <= 1099511627776) (k1 : k <= ((gsI b i 0).length : Int)) (k2 : ((gsI b i 0).length : Int) <= k) : FbP b (i + 1) o := by
 have l := h.l; have e := h.e
 have ek : k.toNat = (gsI b i 0).length := by omega
 refine ⟨?_, by omega⟩
 rw [show (i + 1).toNat = i.toNat + 1 from by omega, fbN, Int.toNat_of_nonneg i0, <- ek]; exact e
theorem fx_0 {b x o : List (List L)} {i : Int} (h : FbP b i o) (i1 : i <= b.length) (i2 : (b.length : Int) <= i) : FxP b x 0 o := by
 have l := h.l; have e := h.e
 have ei : i.toNat = b.length := by omega
 rw [ei] at e l
 exact ⟨by rw [e]; simp [fxN], by omega⟩
theorem fx_up {b x o : List (List L)} {j : Int} (h : FxP b x j o) (j0 : 0 <= j) (hn : (gsI x j 0).length <= 1099511627776) : FxP b x (j + 1) (o ++ gsI x j 0) := by
 have l := h.l; have e := h.e
 refine ⟨?_, ?_⟩
 ·rw [show (j + 1).toNat = j.toNat + 1 from by omega, fxN, Int.toNat_of_nonneg j0, <- List.append_assoc, <- e]
 ·rw [List.length_append]; omega
theorem fx_end {b x o : List (List L)} {j : Int} (h : FxP b x j o) (hm : mailOk b x = true) (j1 : j <= x.length) (j2 : (x.length : Int) <= j) : o = ifL b x := by
 have e := h.e
 rw [show j.toNat = x.length from by omega] at e
 unfold ifL; rw [if_pos hm]; exact e
theorem if_f {b x : List (List L)} (hm : mailOk b x = false) : ([] : List (List L)) = ifL b x := by unfold ifL; rw [hm]; rfl
end Go.V
namespace Go.V
structure NsC (cs : List (List L)) : Prop where
 w : Rw [.sl [.sl [tI]]] cs
 l : cs.length <= 1099511627776
 n : ∀ i : Int, 0 <= i -> i < cs.length -> NsL (gsI cs i 0)
end Go.V
namespace Go.V
theorem confR_int : ∀ {fs : List Ty} {e : (List L)} {j : Nat}, confR fs e -> fs[j]? = some tI -> ∃ n, e[j]? = some (.v (.int .i64 n)) /\ -9223372036854775808 <= n /\ n <= 9223372036854775807
 | [], _, j, _, h => by simp at h
 | _ :: _, [], j, h, _ => h.elim
 | t :: ts, l :: ls, 0, h, e => by
   simp at e; subst e
   have h1 := h.1
   cases l with
   | v x => cases x with
     | int k n => simp only [confL] at h1; exact ⟨n, by simp [h1.1], ihas h1.2⟩
     | _ => simp [confL] at h1
   | _ => simp [confL] at h1
 | t :: ts, l :: ls, j + 1, h, e => by
   simp at e
   obtain ⟨n, h1, h2⟩ := confR_int h.2 e
   exact ⟨n, by simpa using h1, h2⟩
theorem gi_rg {fs : List Ty} {es : List (List L)} {i : Int} {j : Nat} (h : Rw fs es) (hj : fs[j]? = some tI) (h1 : i.toNat < es.length) : -9223372036854775808 <= giI es i j /\ giI es i j <= 9223372036854775807 := by
 obtain ⟨n, e, b⟩ := confR_int (h.at h1) hj
 unfold giI
 rw [List.getD_eq_getElem?_getD (l := es.getD i.toNat []), e]
 exact b
theorem rw_1 {x : Int} (h : -9223372036854775808 <= x /\ x <= 9223372036854775807) : Rw [tI] [[.v (.int .i64 x)]] := Rw.one (fs := [tI]) ⟨⟨rfl, h⟩, trivial⟩
def obR (os : List (List L)) (f : Nat) : Nat -> List (List L)
 | 0 => []
 | n + 1 => obR os f n ++ [[.v (.int .i64 (giI os n f))]]
def clR (ls : List (List L)) : Nat -> List (List L)
 | 0 => []
 | n + 1 => clR ls n ++ gsI ls n 0
def ccR (cs : List (List L)) : Nat -> List (List L)
 | 0 => []
 | n + 1 => ccR cs n ++ clR (gsI cs n 0) (gsI cs n 0).length
theorem gs_cnt {es : List (List L)} {n j : Nat} (h : n < es.length) : cntE (gsI es n j) <= cntR (es.getD n []) := by
 unfold gsI
 rw [Int.toNat_natCast]
 generalize es.getD n [] = r
 cases e : r[j]? with
 | none => rw [List.getD_eq_getElem?_getD, e]; exact Nat.zero_le _
 | some l =>
   rw [List.getD_eq_getElem?_getD, e]
   have q := cntR_at e
   cases l with
   | s sz es => exact q
   | _ => exact Nat.zero_le _
theorem cntEs_take {es : List (List L)} {n : Nat} (h : n < es.length) : cntEs (es.take (n + 1)) = cntEs (es.take n) + cntR (es.getD n []) := by
 rw [getD_take_succ (d := []) h, cntEs_append]; simp [cntEs]
theorem cntEs_le {es : List (List L)} {n : Nat} : cntEs (es.take n) <= cntEs es := by
 conv => rhs; rw [<- List.take_append_drop n es, cntEs_append]
 omega
theorem fpK_len {b : List (List L)} {i : Int} : ∀ n, (fpK b i n).length = n
 | 0 => rfl
 | n + 1 => by rw [fpK, List.length_append, fpK_len n]; rfl
theorem mt_len {b x : List (List L)} : ∀ n : Nat, (((fbN b n).length + (fxN x n).length : Nat) : Int) = mtN b x n
 | 0 => rfl
 | n + 1 => by
   have q := mt_len (b := b) (x := x) n
   rw [mtN, fbN, fxN, List.length_append, List.length_append, fpK_len, <- q]; omega
theorem if_len {b x : List (List L)} : (ifL b x).length <= 30 := by
 unfold ifL
 by_cases c : mailOk b x = true
 ·rw [if_pos c, List.length_append]
  have t := ml_t c
  unfold mailOk at c
  simp only [Bool.and_eq_true, decide_eq_true_eq] at c
  have q := mt_len (b := b) (x := x) b.length
  rw [t.2]; omega
 ·rw [if_neg c]; exact Nat.zero_le _
theorem fpK_rw {b x : List (List L)} {i : Int} (h : NsM b x) (i0 : 0 <= i) (i1 : i < b.length) : ∀ n, n <= (gsI b i 0).length -> Rw [tI] (fpK b i n)
 | 0, _ => Rw.nil
 | n + 1, hn => Rw.append (fpK_rw h i0 i1 n (by omega)) (rw_1 (gi_rg (fs := [tI, tI]) (Rw.sub (fs := [.sl [tI, tI]]) h.bw (by omega) rfl) rfl (by omega))) (by
    have := h.bn i; rw [fpK_len]; unfold maxLen; simp only [List.length_cons, List.length_nil]; omega)
theorem fbN_rw {b x : List (List L)} (h : NsM b x) (hb : b.length <= 4) : ∀ n, n <= b.length -> Rw [tI] (fbN b n) /\ (fbN b n).length <= n * 1099511627776
 | 0, _ => ⟨Rw.nil, Nat.zero_le _⟩
 | n + 1, hn => by
   obtain ⟨q1, q2⟩ := fbN_rw h hb n (by omega)
   have l := h.bn n
   refine ⟨Rw.append q1 (fpK_rw h (by omega) (by omega) _ (Nat.le_refl _)) (by rw [fpK_len]; unfold maxLen; omega), ?_⟩
   rw [fbN, List.length_append, fpK_len]; omega
theorem fxN_rw {b x : List (List L)} (h : NsM b x) (hb : x.length <= 4) : ∀ n, n <= x.length -> Rw [tI] (fxN x n) /\ (fxN x n).length <= n * 1099511627776
 | 0, _ => ⟨Rw.nil, Nat.zero_le _⟩
 | n + 1, hn => by
   obtain ⟨q1, q2⟩ := fxN_rw h hb n (by omega)
   have l := h.xn n
   refine ⟨Rw.append q1 (Rw.sub (fs := [.sl [tI]]) h.xw (by omega) rfl) (by unfold maxLen; omega), ?_⟩
   rw [fxN, List.length_append]; omega
theorem if_rw {b x : List (List L)} (h : NsM b x) : Rw [tI] (ifL b x) := by
 unfold ifL
 by_cases c : mailOk b x = true
 ·rw [if_pos c]
  have t := ml_t c
  obtain ⟨q1, l1⟩ := fbN_rw h t.1 b.length (Nat.le_refl _)
  obtain ⟨q2, l2⟩ := fxN_rw h (by omega) x.length (Nat.le_refl _)
  exact Rw.append q1 q2 (by unfold maxLen; omega)
 ·rw [if_neg c]; exact Rw.nil
structure NsH (sp lg os cs b x qs : List (List L)) : Prop where
 sw : Rw [tI, tI, tI] sp
 lw : Rw [tI, tI, tI] lg
 ow : Rw [tI, tI, tI, tI] os
 cw : Rw [.sl [.sl [tI]]] cs
 qw : Rw [tI, tI, tI] qs
 m : NsM b x
 c : NsC cs
 sl : sp.length <= 1073741824
 ll : lg.length <= 1073741824
 ol : os.length <= 1073741824
 ql : qs.length <= 1073741824
 cl : cntE cs <= 1073741824
structure O1P (os : List (List L)) (i : Int) (o : List (List L)) : Prop where
 e : o = obR os 1 i.toNat
structure O2P (os cs : List (List L)) (i : Int) (o : List (List L)) : Prop where
 e : o = obR os 1 os.length ++ ccR cs i.toNat
structure O3P (os cs : List (List L)) (i k : Int) (o : List (List L)) : Prop where
 e : o = obR os 1 os.length ++ ccR cs i.toNat ++ clR (gsI cs i 0) k.toNat
structure O4P (os cs qs : List (List L)) (j : Int) (o : List (List L)) : Prop where
 e : o = obR os 1 os.length ++ ccR cs cs.length ++ obR qs 0 j.toNat
section
variable {sp lg os cs b x qs o : List (List L)} {i k j : Int}
end
def hd1 (e : (List L)) : Int := lfI (e.getD 0 .g)
theorem has_m {l : List (List L)} {a : Int} : hasB l a = true ↔ a ∈ l.map hd1 := by
 rw [has_t, List.mem_map]
 constructor
 ·rintro ⟨k, hk, e⟩
  refine ⟨l[k], List.getElem_mem _, ?_⟩
  rw [<- e]; unfold giI hd1
  rw [Int.toNat_natCast, List.getD_eq_getElem?_getD (l := l), List.getElem?_eq_getElem hk]; rfl
 ·rintro ⟨e, he, q⟩
  obtain ⟨k, hk, rfl⟩ := List.mem_iff_getElem.1 he
  refine ⟨k, hk, ?_⟩
  rw [<- q]; unfold giI hd1
  rw [Int.toNat_natCast, List.getD_eq_getElem?_getD (l := l), List.getElem?_eq_getElem hk]; rfl
theorem has_app {l m : List (List L)} {a : Int} : hasB (l ++ m) a = (hasB l a || hasB m a) := by
 refine b_iff ?_
 rw [Bool.or_eq_true, has_m, has_m, has_m, List.map_append, List.mem_append]
theorem has_one {x a : Int} : hasB [[.v (.int .i64 x)]] a = true ↔ x = a := by
 rw [has_m]
 show a ∈ [x] ↔ x = a
 rw [List.mem_singleton]; exact ⟨Eq.symm, Eq.symm⟩
theorem first_iff {p : Int -> Bool} {n : Nat} : 0 <= firstI p n ↔ ∃ k : Nat, k < n /\ p k = true := by
 constructor
 ·intro h
  obtain ⟨h1, h2⟩ := first_p h
  obtain ⟨k, e⟩ := Int.eq_ofNat_of_zero_le h
  rw [e] at h1 h2
  exact ⟨k, by omega, h2⟩
 ·rintro ⟨k, h1, h2⟩
  exact first_ge h1 h2
def flN (p : Int -> Bool) (l : List (List L)) : Nat -> List (List L)
 | 0 => []
 | n + 1 => flN p l n ++ (if p (giI l n 0) then [[.v (.int .i64 (giI l n 0))]] else [])
structure FltP (p : Int -> Bool) (l : List (List L)) (i : Int) (o : List (List L)) : Prop where
 e : o = flN p l i.toNat
 l : o.length <= i.toNat
section
variable {p : Int -> Bool} {l o : List (List L)} {i : Int}
end
theorem la_len {sp lg : List (List L)} : (laL sp lg).length <= 512 := by
 have k : ∀ n, (laN sp lg n).length <= n := by
  intro n
  induction n with
  | zero => exact Nat.le_refl _
  | succ n ih => rw [laN, List.length_append]; split <;> simp <;> omega
 unfold laL; split
 ·exact k 512
 ·exact Nat.zero_le _
theorem la_rw {sp lg : List (List L)} : Rw [tI] (laL sp lg) := by
 unfold laL
 by_cases c : layOk sp lg = true
 ·rw [if_pos c, laN_eq]
  refine rwL_rw (fun x hx => ?_) ?_
  ·have := mem_lvN.1 hx; omega
  ·have q := la_len (sp := sp) (lg := lg); unfold laL at q; rw [if_pos c, laN_eq, rwL_len] at q; omega
 ·rw [if_neg c]; exact Rw.nil
theorem own1L {l : List (List L)} {i : Int} (h : Rw [tI] l) (h0 : 0 <= i) (h1 : i < l.length) : ∃ rec o, getR (L.s 1 l) [(i.toNat, 0)] = some (rec, o) /\ o + [L.v (Value.int IntKind.i64 0)].length <= rec.length /\ List.take [L.v (Value.int IntKind.i64 0)].length (List.drop o rec) = etaP stdO (L.s 1 l) [(i.toNat, 0)] 0 [L.v (Value.int IntKind.i64 0)] :=
 row_load (z0 := [.v (.int .i64 0)]) (z := [.v (.int .i64 0)]) h.wf (by omega) rfl (by decide)
theorem gs_len {es : List (List L)} {i : Int} {j : Nat} : cntE (gsI es i j) <= cntE es := by
 by_cases c : i.toNat < es.length
 ·have q := gs_cnt (j := j) c
  rw [show gsI es (i.toNat : Nat) j = gsI es i j from by unfold gsI; rw [Int.toNat_natCast]] at q
  have d := cntEs_take c
  have e := cntEs_le (es := es) (n := i.toNat + 1)
  unfold cntE at q ⊢; omega
 ·have e : gsI es i j = [] := by
   unfold gsI; rw [List.getD_eq_getElem?_getD (l := es), List.getElem?_eq_none (by omega)]; simp [lfS]
  rw [e]; exact Nat.zero_le _
theorem nsL_of {ls : List (List L)} (h : Rw [.sl [tI]] ls) (hc : cntE ls <= 1073741824) : NsL ls := by
 refine ⟨h, by unfold cntE at hc; omega, fun i => ?_⟩
 have := gs_len (es := ls) (i := i) (j := 0)
 unfold cntE at this hc; omega
theorem nsC_of {cs : List (List L)} (h : Rw [.sl [.sl [tI]]] cs) (hc : cntE cs <= 1073741824) : NsC cs := by
 refine ⟨h, by unfold cntE at hc; omega, fun i i0 i1 => nsL_of (Rw.sub (fs := [.sl [.sl [tI]]]) h (by omega) rfl) ?_⟩
 exact Nat.le_trans gs_len hc
theorem nsM_of {b x : List (List L)} (hb : Rw [.sl [tI, tI]] b) (hx : Rw [.sl [tI]] x) (cb : cntE b <= 1073741824) (cx : cntE x <= 1073741824) : NsM b x := by
 refine ⟨hb, hx, by unfold cntE at cb; omega, by unfold cntE at cx; omega, fun i => ?_, fun i => ?_⟩
 ·have := gs_len (es := b) (i := i) (j := 0); unfold cntE at this cb; omega
 ·have := gs_len (es := x) (i := i) (j := 0); unfold cntE at this cx; omega
theorem nsH_of {sp lg os cs b x qs : List (List L)} (hs : Rw [tI, tI, tI] sp) (hl : Rw [tI, tI, tI] lg) (ho : Rw [tI, tI, tI, tI] os) (hc : Rw [.sl [.sl [tI]]] cs) (hb : Rw [.sl [tI, tI]] b) (hx : Rw [.sl [tI]] x) (hq : Rw [tI, tI, tI] qs) 
 (cs1 : cntE sp <= 1048576) (cl : cntE lg <= 1048576) (co : cntE os <= 1048576) (cc : cntE cs <= 1048576) (cb : cntE b <= 1048576) (cx : cntE x <= 1048576) (cq : cntE qs <= 1048576) : NsH sp lg os cs b x qs :=
 ⟨hs, hl, ho, hc, hq, nsM_of hb hx (by omega) (by omega), nsC_of hc (by omega), by unfold cntE at cs1; omega, by unfold cntE at cl; omega, by unfold cntE at co; omega, by unfold cntE at cq; omega, by omega⟩
end Go.V
namespace Go.V
theorem sub1 {i : Int} (h : 0 <= i) (h1 : i <= 9223372036854775807) : arI .sub .i64 i 1 = i - 1 := sub64 (by omega)
theorem sub_tk {es : List (List L)} {i : Int} : subI es (Int.toNat 0) (dfI i 0) = es.take i.toNat := by simp [subI, dfI]
theorem cmp_eq {a b : Int} : cmpI .eql a b = decide (a = b) := by unfold cmpI; by_cases c : a = b <;> simp [c]
theorem cmp_ne {a b : Int} : cmpI .neq a b = decide (a ≠ b) := by unfold cmpI; by_cases c : a = b <;> simp [c]
def rngIn (n a l : Int) : Bool := inR l 1 n && inR a 0 (n - l)
def rngA (n : Int) (rs : List (List L)) (i : Int) : Bool := rngIn n (giI rs i 0) (giI rs i 1) && !(decide (0 < i) && decide (giI rs i 0 <= arI .add .i64 (giI rs (i - 1) 0) (giI rs (i - 1) 1)))
def rgOk (n : Int) (rs : List (List L)) : Bool := allI (rngA n rs) rs.length && inR n 1 32
section
variable {n i : Int} {rs : List (List L)}
theorem rg_no1 (i0 : 0 <= i) (i1 : i < rs.length) (h : rngIn n (giI rs i 0) (giI rs i 1) = false) : rgOk n rs = false := by
 unfold rgOk; rw [allI_f i0 i1 (by unfold rngA; rw [h]; rfl)]; rfl
theorem rg_no2 (i0 : 0 <= i) (i1 : i < rs.length) (h : 0 < i) (g : giI rs i 0 <= arI .add .i64 (giI rs (i - 1) 0) (giI rs (i - 1) 1)) : rgOk n rs = false := by
 unfold rgOk; rw [allI_f i0 i1 (by unfold rngA; rw [decide_eq_true h, decide_eq_true g]; simp)]; rfl
theorem rg_yes1 (h : rngIn n (giI rs i 0) (giI rs i 1) = true) (g : i <= 0) : rngA n rs i = true := by
 unfold rngA; rw [h, decide_eq_false (by omega)]; rfl
theorem rg_yes2 (h : rngIn n (giI rs i 0) (giI rs i 1) = true) (g : arI .add .i64 (giI rs (i - 1) 0) (giI rs (i - 1) 1) < giI rs i 0) : rngA n rs i = true := by
 unfold rngA; rw [h, decide_eq_false (p := giI rs i 0 <= _) (by omega)]; simp
theorem rg_end (h : upto (rngA n rs) i) (g : (rs.length : Int) <= i) : inR n 1 32 = rgOk n rs := by unfold rgOk; rw [allI_of h g]; rfl
end
def isRh (rs : List (List L)) (p j : Int) : Bool := decide (giI rs j 0 <= p) && decide (p < arI .add .i64 (giI rs j 0) (giI rs j 1))
def rhI (rs : List (List L)) (p : Int) : Int := firstI (isRh rs p) rs.length
def rhB (rs : List (List L)) (p : Int) : Bool := decide (0 <= rhI rs p)
def rh1 (a l p : Int) : Bool := decide (a <= p) && decide (p < arI .add .i64 a l)
theorem rh_yes {rs : List (List L)} {p i : Int} (h : upto (notB (isRh rs p)) i) (h0 : 0 <= i) (h1 : i < rs.length) (a : giI rs i 0 <= p) (b : p < arI .add .i64 (giI rs i 0) (giI rs i 1)) : rhB rs p = true := by
 unfold rhB rhI; rw [first_at h h0 h1 (by unfold isRh; rw [decide_eq_true a, decide_eq_true b]; rfl)]; exact decide_eq_true h0
theorem rh_no {rs : List (List L)} {p i : Int} (h : upto (notB (isRh rs p)) i) (h1 : (rs.length : Int) <= i) : rhB rs p = false := by
 unfold rhB rhI; rw [first_no h h1]; rfl
theorem rh_f1 {rs : List (List L)} {p i : Int} (a : p < giI rs i 0) : notB (isRh rs p) i = true := by unfold notB isRh; rw [decide_eq_false (by omega)]; rfl
theorem rh_f2 {rs : List (List L)} {p i : Int} (b : arI .add .i64 (giI rs i 0) (giI rs i 1) <= p) : notB (isRh rs p) i = true := by unfold notB isRh; rw [decide_eq_false (p := p < _) (by omega)]; simp
def mshB (p1 k1 b1 p2 k2 b2 : Int) : Bool := spOk p1 k1 b1 && (spOk p2 k2 b2 && (decide (k1 = k2) && (decide (p1 ≠ p2) && decide (arI .and .i64 b1 b2 = 0))))
def qcN (qs : List (List L)) : Nat -> Int
 | 0 => 0
 | n + 1 => qcN qs n + clsSz (giI qs n 1)
def qcI (qs : List (List L)) : Int := qcN qs qs.length
theorem clsSz_b {k : Int} : 0 <= clsSz k /\ clsSz k <= 8 := by
 unfold clsSz; repeat' split
 all_goals omega
theorem qcN_b {qs : List (List L)} : ∀ n : Nat, 0 <= qcN qs n /\ qcN qs n <= 8 * n
 | 0 => ⟨Int.le_refl _, Int.le_refl _⟩
 | n + 1 => by have q := qcN_b (qs := qs) n; have c := clsSz_b (k := giI qs n 1); rw [qcN]; omega
structure QcP (qs : List (List L)) (i t : Int) : Prop where
 e : t = qcN qs i.toNat
theorem qc_0 {qs : List (List L)} : QcP qs 0 0 := ⟨rfl⟩
theorem qc_b {qs : List (List L)} {i t : Int} (h : QcP qs i t) (i0 : 0 <= i) : 0 <= t /\ t <= 8 * i := by have q := qcN_b (qs := qs) i.toNat; rw [<- h.e] at q; omega
theorem qc_up {qs : List (List L)} {i t : Int} (h : QcP qs i t) (i0 : 0 <= i) (i1 : i <= 1099511627776) : QcP qs (i + 1) (arI .add .i64 t (clsSz (giI qs i 1))) := by
 have b := qc_b h i0
 have c := clsSz_b (k := giI qs i 1)
 refine ⟨?_⟩
 rw [show arI .add .i64 t (clsSz (giI qs i 1)) = t + clsSz (giI qs i 1) from add64 (by omega), show (i + 1).toNat = i.toNat + 1 from by omega, qcN, <- h.e, Int.toNat_of_nonneg i0]
theorem qc_end {qs : List (List L)} {i t : Int} (h : QcP qs i t) (i1 : i <= qs.length) (i2 : (qs.length : Int) <= i) : t = qcI qs := by unfold qcI; rw [h.e, show i.toNat = qs.length from by omega]
def stlOk (b : List (List L)) (a c s : Int) : Bool := inR c 0 3 && (decide (0 <= a) && (decide (0 <= s) && (!qtB b a && (decide (b.length = 0) || decide (giI b (b.length - 1 : Int) 2 <= s)))))
def qtA (qs : List (List L)) (i : Int) : Bool := stlOk (qs.take i.toNat) (giI qs i 0) (giI qs i 1) (giI qs i 2)
def quarOk (rm : Int) (qs : List (List L)) : Bool := allI (qtA qs) qs.length && (inR rm 0 500 && decide (qcI qs <= rm))
def staB (a c s : Int) : Bool := inR c 0 3 && (decide (0 <= a) && decide (0 <= s))
theorem gi_take {es : List (List L)} {n : Nat} {i : Int} {j : Nat} (h : i.toNat < n) : giI (es.take n) i j = giI es i j := by
 unfold giI
 rw [List.getD_eq_getElem?_getD (l := es.take n), List.getElem?_take, if_pos h, List.getD_eq_getElem?_getD (l := es)]
section
variable {rm i : Int} {qs : List (List L)}
theorem qo_no (i0 : 0 <= i) (i1 : i < qs.length) (h : qtA qs i = false) : quarOk rm qs = false := by unfold quarOk; rw [allI_f i0 i1 h]; rfl
theorem qo_end (h : upto (qtA qs) i) (g : (qs.length : Int) <= i) : quarOk rm qs = (inR rm 0 500 && decide (qcI qs <= rm)) := by unfold quarOk; rw [allI_of h g]; rfl
theorem qa_f1 (h : staB (giI qs i 0) (giI qs i 1) (giI qs i 2) = false) : qtA qs i = false := by
 unfold qtA stlOk
 unfold staB at h
 revert h
 cases inR (giI qs i 1) 0 3 <;> cases decide (0 <= giI qs i 0) <;> cases decide (0 <= giI qs i 2) <;> simp
theorem qa_last (i0 : 0 < i) (i1 : i < qs.length) : (decide ((qs.take i.toNat).length = 0) || decide (giI (qs.take i.toNat) ((qs.take i.toNat).length - 1 : Int) 2 <= giI qs i 2)) = decide (giI qs (i - 1) 2 <= giI qs i 2) := by
 have e : (qs.take i.toNat).length = i.toNat := by rw [List.length_take]; omega
 rw [e, gi_take (by omega), decide_eq_false (p := i.toNat = 0) (by omega), show ((i.toNat : Nat) : Int) - 1 = i - 1 from by omega]; rfl
theorem qa_f2 (i0 : 0 < i) (i1 : i < qs.length) (h : giI qs i 2 < giI qs (i - 1) 2) : qtA qs i = false := by
 unfold qtA stlOk; rw [qa_last i0 i1, decide_eq_false (p := giI qs (i - 1) 2 <= giI qs i 2) (by omega)]; simp
theorem qa_f3 (h : qtB (qs.take i.toNat) (giI qs i 0) = true) : qtA qs i = false := by unfold qtA stlOk; rw [h]; simp
theorem qa_t1 (h : staB (giI qs i 0) (giI qs i 1) (giI qs i 2) = true) (g : qtB (qs.take i.toNat) (giI qs i 0) = false) (i0 : 0 <= i) (z : i <= 0) : qtA qs i = true := by
 unfold qtA stlOk
 unfold staB at h
 simp only [Bool.and_eq_true] at h
 have e : i = 0 := by omega
 subst e
 rw [h.1, h.2.1, h.2.2, g]; rfl
theorem qa_t2 (h : staB (giI qs i 0) (giI qs i 1) (giI qs i 2) = true) (g : qtB (qs.take i.toNat) (giI qs i 0) = false) (i0 : 0 < i) (i1 : i < qs.length) (z : giI qs (i - 1) 2 <= giI qs i 2) : qtA qs i = true := by
 unfold qtA stlOk
 unfold staB at h
 simp only [Bool.and_eq_true] at h
 rw [qa_last i0 i1, h.1, h.2.1, h.2.2, g, decide_eq_true z]; rfl
end
def ciK (ls : List (List L)) (i : Int) : Nat -> List Int
 | 0 => []
 | n + 1 => ciK ls i n ++ [giI (gsI ls i 0) n 0]
def ciL (ls : List (List L)) : Nat -> List Int
 | 0 => []
 | n + 1 => ciL ls n ++ ciK ls n (gsI ls n 0).length
def caB (ls : List (List L)) (i k : Int) : Bool := inR (giI (gsI ls i 0) k 0) 0 511 && decide (arI .rem .i64 (giI (gsI ls i 0) k 0) (clsSz i) = 0)
def caA (ls : List (List L)) (i : Int) : Bool := decide ((gsI ls i 0).length <= 8) && allI (caB ls i) (gsI ls i 0).length
def caOk (ls : List (List L)) : Bool := decide (ls.length = 4) && (allI (caA ls) 4 && decide ((ciL ls 4).Nodup))
theorem ciK_len {ls : List (List L)} {i : Int} : ∀ n, (ciK ls i n).length = n
 | 0 => rfl
 | n + 1 => by rw [ciK, List.length_append, ciK_len n]; rfl
theorem ciK_pre {ls : List (List L)} {i : Int} : ∀ (m n : Nat), n <= m -> ∃ r, ciK ls i m = ciK ls i n ++ r
 | 0, n, h => ⟨[], by rw [show n = 0 from by omega]; rfl⟩
 | m + 1, n, h => by
   by_cases c : n = m + 1
   ·subst c; exact ⟨[], by simp⟩
   ·obtain ⟨r, e⟩ := ciK_pre (ls := ls) (i := i) m n (by omega)
    exact ⟨r ++ [giI (gsI ls i 0) m 0], by rw [ciK, e, List.append_assoc]⟩
theorem ciL_pre {ls : List (List L)} : ∀ (m n : Nat), n <= m -> ∃ r, ciL ls m = ciL ls n ++ r
 | 0, n, h => ⟨[], by rw [show n = 0 from by omega]; rfl⟩
 | m + 1, n, h => by
   by_cases c : n = m + 1
   ·subst c; exact ⟨[], by simp⟩
   ·obtain ⟨r, e⟩ := ciL_pre (ls := ls) m n (by omega)
    exact ⟨r ++ ciK ls m (gsI ls m 0).length, by rw [ciL, e, List.append_assoc]⟩
theorem ciK_up {ls : List (List L)} {i k : Int} (h : 0 <= k) : ciK ls i (k + 1).toNat = ciK ls i k.toNat ++ [giI (gsI ls i 0) k 0] := by
 rw [show (k + 1).toNat = k.toNat + 1 from by omega, ciK, Int.toNat_of_nonneg h]
theorem ciL_up {ls : List (List L)} {i : Int} (h : 0 <= i) : ciL ls (i + 1).toNat = ciL ls i.toNat ++ ciK ls i (gsI ls i 0).length := by
 rw [show (i + 1).toNat = i.toNat + 1 from by omega, ciL, Int.toNat_of_nonneg h]
structure CaP (ls : List (List L)) (i : Int) : Prop where
 ok : upto (caA ls) i
 nd : (ciL ls i.toNat).Nodup
 l : i <= 4
 b : ∀ x ∈ ciL ls i.toNat, 0 <= x /\ x <= 511
 n : (ciL ls i.toNat).length <= 8 * i.toNat
structure CbP (ls : List (List L)) (i k : Int) : Prop where
 ok : upto (caA ls) i
 nd : (ciL ls i.toNat ++ ciK ls i k.toNat).Nodup
 l : i <= 3
 s : (gsI ls i 0).length <= 8
 bk : upto (caB ls i) k
 b : ∀ x ∈ ciL ls i.toNat ++ ciK ls i k.toNat, 0 <= x /\ x <= 511
 n : (ciL ls i.toNat).length <= 8 * i.toNat
section
variable {ls : List (List L)} {i k : Int}
theorem ca_0 : CaP ls 0 := ⟨upto_z, List.nodup_nil, by omega, (fun x hx => by cases hx), Nat.zero_le _⟩
theorem cb_0 (h : CaP ls i) (i0 : 0 <= i) (c : inR i 0 3 = true) (s : (gsI ls i 0).length <= 8) : CbP ls i 0 :=
 ⟨h.ok, by simpa [ciK] using h.nd, (inR_t.1 c).2, s, upto_z, by simpa [ciK] using h.b, h.n⟩
theorem cb_up (h : CbP ls i k) (k0 : 0 <= k) (h1 : inR (giI (gsI ls i 0) k 0) 0 511 = true) (h2 : arI .rem .i64 (giI (gsI ls i 0) k 0) (clsSz i) = 0) (h3 : giI (gsI ls i 0) k 0 ∉ ciL ls i.toNat ++ ciK ls i k.toNat) : CbP ls i (k + 1) := by
 refine ⟨h.ok, ?_, h.l, h.s, upto_s h.bk (by unfold caB; rw [h1, decide_eq_true h2]; rfl), ?_, h.n⟩
 ·rw [ciK_up k0, <- List.append_assoc]; exact nd_snoc h.nd h3
 ·rw [ciK_up k0, <- List.append_assoc]
  intro x hx
  rcases List.mem_append.1 hx with q | q
  ·exact h.b x q
  ·simp at q; subst q; exact inR_t.1 h1
theorem ca_up (h : CbP ls i k) (i0 : 0 <= i) (k1 : k <= ((gsI ls i 0).length : Int)) (k2 : ((gsI ls i 0).length : Int) <= k) : CaP ls (i + 1) := by
 have e : k.toNat = (gsI ls i 0).length := by omega
 have nd := h.nd; have b := h.b; have n := h.n; have s := h.s; have l := h.l
 rw [e, <- ciL_up i0] at nd b
 refine ⟨upto_s h.ok (by unfold caA; rw [decide_eq_true h.s, allI_of h.bk k2]; rfl), nd, by omega, b, ?_⟩
 rw [ciL_up i0, List.length_append, ciK_len]; omega
theorem ca_no0 (h : (ls.length : Int) ≠ 4) : caOk ls = false := by unfold caOk; rw [decide_eq_false (by omega)]; rfl
theorem ca_no (i0 : 0 <= i) (l : i <= 3) (h : caA ls i = false) : caOk ls = false := by unfold caOk; rw [allI_f (n := 4) i0 (by omega) h]; simp
theorem ca_no1 (i0 : 0 <= i) (h : 8 < (gsI ls i 0).length) (l : i <= 3) : caOk ls = false := ca_no i0 l (by unfold caA; rw [decide_eq_false (by omega)]; rfl)
theorem ca_no2 (i0 : 0 <= i) (l : i <= 3) (k0 : 0 <= k) (k1 : k < (gsI ls i 0).length) (h : caB ls i k = false) : caOk ls = false := ca_no i0 l (by unfold caA; rw [allI_f k0 k1 h, Bool.and_false])
theorem cb_f1 (h : inR (giI (gsI ls i 0) k 0) 0 511 = false) : caB ls i k = false := by unfold caB; rw [h]; rfl
theorem cb_f2 (h : arI .rem .i64 (giI (gsI ls i 0) k 0) (clsSz i) ≠ 0) : caB ls i k = false := by unfold caB; rw [decide_eq_false h, Bool.and_false]
theorem ca_dup (i0 : 0 <= i) (l : i <= 3) (k0 : 0 <= k) (k1 : k < (gsI ls i 0).length) (h : giI (gsI ls i 0) k 0 ∈ ciL ls i.toNat ++ ciK ls i k.toNat) : caOk ls = false := by
 obtain ⟨r, e⟩ := ciL_pre (ls := ls) 4 (i + 1).toNat (by omega)
 obtain ⟨r2, e2⟩ := ciK_pre (ls := ls) (i := i) (gsI ls i 0).length (k + 1).toNat (by omega)
 rw [ciL_up i0, e2, ciK_up k0] at e
 have : ¬ (ciL ls 4).Nodup := dup (a := ciL ls i.toNat ++ ciK ls i k.toNat) (b := r2 ++ r) (x := giI (gsI ls i 0) k 0) (by rw [e]; simp only [List.append_assoc]; rfl) h
 unfold caOk; rw [decide_eq_false this]; simp
theorem ca_yes (h : CaP ls i) (h1 : (ls.length : Int) = 4) (i2 : 4 <= i) : caOk ls = true := by
 have l := h.l
 have e : i = 4 := by omega
 subst e
 unfold caOk; rw [decide_eq_true (by omega), allI_of h.ok (by omega), decide_eq_true (p := (ciL ls 4).Nodup) h.nd]; rfl
theorem ca_end (h : CaP ls i) (i1 : i <= ls.length) (i2 : (ls.length : Int) <= i) : decide ((ls.length : Int) = 4) = caOk ls := by
 by_cases c : (ls.length : Int) = 4
 ·rw [ca_yes h c (by omega)]; exact decide_eq_true c
 ·rw [ca_no0 c]; exact decide_eq_false c
end
structure ScP (ls : List (List L)) (i : Int) (o : List (List L)) : Prop where
 p : CaP ls i
 e : o = rwL (ciL ls i.toNat)
structure SdP (ls : List (List L)) (i k : Int) (o : List (List L)) : Prop where
 p : CbP ls i k
 e : o = rwL (ciL ls i.toNat ++ ciK ls i k.toNat)
structure IcaP (ls : List (List L)) (i : Int) (es : List (List L)) : Prop where
 p : CaP ls i
 s : SeenB es (ciL ls i.toNat)
structure IcbP (ls : List (List L)) (i k : Int) (es : List (List L)) : Prop where
 p : CbP ls i k
 s : SeenB es (ciL ls i.toNat ++ ciK ls i k.toNat)
section
variable {ls o es : List (List L)} {i k : Int}
theorem sc_0 : ScP ls 0 [] := ⟨ca_0, rfl⟩
theorem sd_0 (h : ScP ls i o) (i0 : 0 <= i) (i1 : i < 4) (s : (gsI ls i 0).length <= 8) : SdP ls i 0 o := ⟨cb_0 h.p i0 (inR_t.2 (by omega)) s, by rw [h.e]; simp [ciK]⟩
theorem sd_up (h : SdP ls i k o) (k0 : 0 <= k) (h1 : inR (giI (gsI ls i 0) k 0) 0 511 = true) (h2 : arI .rem .i64 (giI (gsI ls i 0) k 0) (clsSz i) = 0) (h3 : hasB o (giI (gsI ls i 0) k 0) = false) : SdP ls i (k + 1) (o ++ [[.v (.int .i64 (giI (gsI ls i 0) k 0))]]) := by
 have e := h.e
 rw [e] at h3
 refine ⟨cb_up h.p k0 h1 h2 (has_rwF h3), ?_⟩
 rw [ciK_up k0, <- List.append_assoc, rwL_app, <- e]; rfl
theorem sc_up (h : SdP ls i k o) (i0 : 0 <= i) (k1 : k <= ((gsI ls i 0).length : Int)) (k2 : ((gsI ls i 0).length : Int) <= k) : ScP ls (i + 1) o :=
 ⟨ca_up h.p i0 k1 k2, by rw [ciL_up i0, h.e, show k.toNat = (gsI ls i 0).length from by omega]⟩
theorem sd_dup (h : SdP ls i k o) (i0 : 0 <= i) (k0 : 0 <= k) (k1 : k < (gsI ls i 0).length) (h3 : hasB o (giI (gsI ls i 0) k 0) = true) : caOk ls = false := by
 rw [h.e, has_rwL] at h3
 exact ca_dup i0 h.p.l k0 k1 h3
theorem sd_len (h : SdP ls i k o) (k0 : 0 <= k) : o.length <= 40 + k.toNat /\ Rw [tI] o := by
 have n := h.p.n; have l := h.p.l; have s := h.p.s
 have q : o.length <= 40 + k.toNat := by rw [h.e, rwL_len, List.length_append, ciK_len]; omega
 refine ⟨q, ?_⟩
 rw [h.e]
 have nd := h.p.nd
 refine rwL_rw (fun x hx => by have := h.p.b x hx; omega) ?_
 rw [<- rwL_len, <- h.e]
 have bd : k.toNat <= 512 \/ 512 < k.toNat := by omega
 rcases bd with bd | bd
 ·omega
 ·exfalso
  have c := List.Nodup.length_le_of_subset (l₁ := ciL ls i.toNat ++ ciK ls i k.toNat) (l₂ := (List.range 512).map fun j : Nat => (j : Int)) nd (fun x hx => by
   have b := h.p.b x hx
   rw [List.mem_map]
   exact ⟨x.toNat, List.mem_range.2 (by omega), by omega⟩)
  rw [List.length_append, ciK_len, List.length_map, List.length_range] at c
  omega
theorem ica_0 : IcaP ls 0 [] := ⟨ca_0, seen_0⟩
theorem icb_0 (h : IcaP ls i es) (i0 : 0 <= i) (c : inR i 0 3 = true) (s : (gsI ls i 0).length <= 8) : IcbP ls i 0 es := ⟨cb_0 h.p i0 c s, by simpa [ciK] using h.s⟩
theorem icb_up (h : IcbP ls i k es) (k0 : 0 <= k) (h1 : inR (giI (gsI ls i 0) k 0) 0 511 = true) (h2 : arI .rem .i64 (giI (gsI ls i 0) k 0) (clsSz i) = 0) (h3 : mgbI es (giI (gsI ls i 0) k 0) = false) : IcbP ls i (k + 1) (muI es (giI (gsI ls i 0) k 0) (.v (.bool true))) := by
 refine ⟨cb_up h.p k0 h1 h2 (fun m => by rw [(h.s.at_ _).2 m] at h3; cases h3), ?_⟩
 rw [ciK_up k0, <- List.append_assoc]; exact seen_up h.s
theorem ica_up (h : IcbP ls i k es) (i0 : 0 <= i) (k1 : k <= ((gsI ls i 0).length : Int)) (k2 : ((gsI ls i 0).length : Int) <= k) : IcaP ls (i + 1) es :=
 ⟨ca_up h.p i0 k1 k2, by have s := h.s; rw [show k.toNat = (gsI ls i 0).length from by omega] at s; rw [ciL_up i0]; exact s⟩
theorem icb_dup (h : IcbP ls i k es) (i0 : 0 <= i) (k0 : 0 <= k) (k1 : k < (gsI ls i 0).length) (h3 : mgbI es (giI (gsI ls i 0) k 0) = true) : caOk ls = false := ca_dup i0 h.p.l k0 k1 ((h.s.at_ _).1 h3)
theorem ica_no1 (h : IcaP ls i es) (i0 : 0 <= i) (s : 8 < (gsI ls i 0).length) (i1 : i < ls.length) : caOk ls = false := by
 by_cases c : (ls.length : Int) = 4
 ·exact ca_no1 i0 s (by omega)
 ·exact ca_no0 c
theorem ica_no2 (h : IcaP ls i es) (i0 : 0 <= i) (c : inR i 0 3 = false) (i1 : i < ls.length) : caOk ls = false := by
 have := inR_f.1 c
 exact ca_no0 (by omega)
end
def plA (cs : List (List L)) (i : Int) : Bool := inR (giI cs i 0) 0 15 && !(decide (0 < i) && decide (giI cs i 0 <= giI cs (i - 1) 0))
def plOk (k m : Int) (cs : List (List L)) : Bool := allI (plA cs) cs.length && (inR k 0 31 && (inR m 0 31 && decide (k ≠ m)))
def jbOk (k m : Int) (cs : List (List L)) (ph nx : Int) : Bool := plOk k m cs && (inR ph 0 5 && inR nx 0 cs.length)
section
variable {k m i : Int} {cs : List (List L)}
theorem pl_no1 (i0 : 0 <= i) (i1 : i < cs.length) (h : inR (giI cs i 0) 0 15 = false) : plOk k m cs = false := by
 unfold plOk; rw [allI_f i0 i1 (by unfold plA; rw [h]; rfl)]; rfl
theorem pl_no2 (i0 : 0 <= i) (i1 : i < cs.length) (h : 0 < i) (g : giI cs i 0 <= giI cs (i - 1) 0) : plOk k m cs = false := by
 unfold plOk; rw [allI_f i0 i1 (by unfold plA; rw [decide_eq_true h, decide_eq_true g]; simp)]; rfl
theorem pl_yes1 (h : inR (giI cs i 0) 0 15 = true) (g : i <= 0) : plA cs i = true := by unfold plA; rw [h, decide_eq_false (by omega)]; rfl
theorem pl_yes2 (h : inR (giI cs i 0) 0 15 = true) (g : giI cs (i - 1) 0 < giI cs i 0) : plA cs i = true := by
 unfold plA; rw [h, decide_eq_false (p := giI cs i 0 <= _) (by omega)]; simp
theorem pl_end (h : upto (plA cs) i) (g : (cs.length : Int) <= i) : plOk k m cs = (inR k 0 31 && (inR m 0 31 && decide (k ≠ m))) := by unfold plOk; rw [allI_of h g]; rfl
end
end Go.V
namespace Go.V
theorem dz_t1 {sp lg : List (List L)} {a : Int} (h : layOk sp lg = true) : dzK sp lg a = dnK sp lg a := by unfold dzK; rw [if_pos h]
theorem dz_t2 {sp lg : List (List L)} {a : Int} (h : layOk sp lg = true) : dzI sp lg a = dnI sp lg a := by unfold dzI; rw [if_pos h]
theorem dz_t3 {sp lg : List (List L)} {a : Int} (h : layOk sp lg = true) : dzO sp lg a = dnO sp lg a := by unfold dzO; rw [if_pos h]
theorem dn_i1 {sp lg : List (List L)} {a : Int} (h : dnK sp lg a = 1) : 0 <= dnI sp lg a /\ dnI sp lg a < sp.length := by
 unfold dnK at h
 by_cases c : 0 <= fsI sp a
 ·unfold dnI; rw [if_pos c]
  rcases first_bd (p := sAt sp a) (n := sp.length) with q | q
  ·have : fsI sp a = -1 := q
   omega
  ·exact q
 ·rw [if_neg c] at h
  by_cases d : 0 <= flI lg a
  ·rw [if_pos d] at h; omega
  ·rw [if_neg d] at h; omega
theorem dn_i3 {sp lg : List (List L)} {a : Int} (h : dnK sp lg a = 3) : 0 <= dnI sp lg a /\ dnI sp lg a < lg.length := by
 unfold dnK at h
 by_cases c : 0 <= fsI sp a
 ·rw [if_pos c] at h
  split at h <;> omega
 ·rw [if_neg c] at h
  by_cases d : 0 <= flI lg a
  ·unfold dnI; rw [if_neg c, if_pos d]
   rcases first_bd (p := lAt lg a) (n := lg.length) with q | q
   ·have : flI lg a = -1 := q
    omega
   ·exact q
  ·rw [if_neg d] at h; omega
def isOi (os : List (List L)) (x j : Int) : Bool := eqB (giI os j 0) x
def oiI (os : List (List L)) (x : Int) : Int := firstI (isOi os x) os.length
def oiB (os : List (List L)) (x : Int) : Bool := decide (0 <= oiI os x)
def okO (sp lg : List (List L)) (a s : Int) : Bool := decide (dnO sp lg a = 0) && ((decide (dnK sp lg a = 1) && decide (giI sp (dnI sp lg a) 1 = clsOf s)) || (decide (dnK sp lg a = 3) && decide (giI lg (dnI sp lg a) 2 = s)))
def obA (sp lg os cs : List (List L)) (nx i : Int) : Bool :=
 !(decide (0 < i) && decide (giI os i 1 <= giI os (i - 1) 1)) && (inR (giI os i 0) 1 (arI .sub .i64 nx 1) && (inR (giI os i 3) 0 (cs.length - 1 : Int) && (!oiB (os.take i.toNat) (giI os i 0) && okO sp lg (giI os i 1) (giI os i 2))))
def objOk (sp lg os cs : List (List L)) (nx : Int) : Bool := allI (obA sp lg os cs nx) os.length
section
variable {sp lg os cs : List (List L)} {nx i k : Int}
theorem oo_no (i0 : 0 <= i) (i1 : i < os.length) (h : obA sp lg os cs nx i = false) : objOk sp lg os cs nx = false := allI_f i0 i1 h
theorem oo_end (h : upto (obA sp lg os cs nx) i) (g : (os.length : Int) <= i) : objOk sp lg os cs nx = true := allI_of h g
theorem oa_f1 (h : 0 < i) (g : giI os i 1 <= giI os (i - 1) 1) : obA sp lg os cs nx i = false := by unfold obA; rw [decide_eq_true h, decide_eq_true g]; rfl
theorem oa_f2 (h : inR (giI os i 0) 1 (arI .sub .i64 nx 1) = false) : obA sp lg os cs nx i = false := by unfold obA; rw [h]; simp
theorem oa_f3 (h : inR (giI os i 3) 0 (cs.length - 1 : Int) = false) : obA sp lg os cs nx i = false := by unfold obA; rw [h]; simp
theorem oa_f4 (h : oiB (os.take i.toNat) (giI os i 0) = true) : obA sp lg os cs nx i = false := by unfold obA; rw [h]; simp
theorem oa_f5 (h : okO sp lg (giI os i 1) (giI os i 2) = false) : obA sp lg os cs nx i = false := by unfold obA; rw [h]; simp
theorem oa_t (h1 : i <= 0 \/ giI os (i - 1) 1 < giI os i 1) (h2 : inR (giI os i 0) 1 (arI .sub .i64 nx 1) = true) (h3 : inR (giI os i 3) 0 (cs.length - 1 : Int) = true) (h4 : oiB (os.take i.toNat) (giI os i 0) = false) (h5 : okO sp lg (giI os i 1) (giI os i 2) = true) : obA sp lg os cs nx i = true := by
 unfold obA
 rw [h2, h3, h4, h5]
 rcases h1 with h | h
 ·rw [decide_eq_false (p := 0 < i) (by omega)]; rfl
 ·rw [decide_eq_false (p := giI os i 1 <= giI os (i - 1) 1) (by omega)]; simp
theorem ok_f0 {a s : Int} (h : dnO sp lg a ≠ 0) : okO sp lg a s = false := by unfold okO; rw [decide_eq_false h]; rfl
theorem ok_f {a s : Int} (h1 : dnK sp lg a ≠ 1 \/ giI sp (dnI sp lg a) 1 ≠ clsOf s) (h2 : dnK sp lg a ≠ 3 \/ giI lg (dnI sp lg a) 2 ≠ s) : okO sp lg a s = false := by
 unfold okO
 rcases h1 with h | h <;> rcases h2 with g | g <;> simp [h, g]
theorem ok_t1 {a s : Int} (h0 : dnO sp lg a = 0) (h1 : dnK sp lg a = 1) (h2 : giI sp (dnI sp lg a) 1 = clsOf s) : okO sp lg a s = true := by unfold okO; rw [decide_eq_true h0, decide_eq_true h1, decide_eq_true h2]; rfl
theorem ok_t3 {a s : Int} (h0 : dnO sp lg a = 0) (h1 : dnK sp lg a = 3) (h2 : giI lg (dnI sp lg a) 2 = s) : okO sp lg a s = true := by unfold okO; rw [decide_eq_true h0, decide_eq_true h1, decide_eq_true h2]; simp
theorem oi_yes (k0 : 0 <= k) (k1 : k < i) (i1 : i < os.length) (h : giI os k 0 = giI os i 0) : oiB (os.take i.toNat) (giI os i 0) = true := by
 unfold oiB oiI
 rw [decide_eq_true_eq, first_iff]
 refine ⟨k.toNat, by rw [List.length_take]; omega, ?_⟩
 unfold isOi; rw [Int.toNat_of_nonneg k0, gi_take (by omega)]; exact eqB_t h
theorem oi_no {x : Int} (h : upto (fun j => !eqB (giI os j 0) x) k) (k1 : i <= k) (i0 : 0 <= i) : oiB (os.take i.toNat) x = false := by
 unfold oiB oiI
 refine decide_eq_false (fun c => ?_)
 obtain ⟨m, m1, m2⟩ := first_iff.1 c
 rw [List.length_take] at m1
 have q := h m (by omega) (by omega)
 unfold isOi at m2
 rw [gi_take (by omega)] at m2
 simp only at q
 rw [m2] at q; cases q
end
end Go.V
namespace Go.V
def WfI (es : List (List L)) : Prop := ∀ e ∈ es, ∃ k b : Int, e = [.v (.int .i64 k), .v (.int .i64 b)]
theorem mfind_consI {k b : Int} {es : List (List L)} {n : Int} : mfind ([.v (.int .i64 k), .v (.int .i64 b)] :: es) n = if k = n then some (0, .int .i64 b) else (mfind es n).map fun p => (p.1 + 1, p.2) := rfl
theorem mgi_cons {k b : Int} {es : List (List L)} {n : Int} : mgiI ([.v (.int .i64 k), .v (.int .i64 b)] :: es) n = if k = n then b else mgiI es n := by
 unfold mgiI
 rw [mfind_consI]
 by_cases c : k = n
 ·rw [if_pos c, if_pos c]
 ·rw [if_neg c, if_neg c]
  cases mfind es n with
  | none => rfl
  | some p => obtain ⟨j, v⟩ := p; cases v <;> rfl
theorem mu_consI {k b x : Int} {es : List (List L)} {n : Int} : muI ([.v (.int .i64 k), .v (.int .i64 b)] :: es) n (.v (.int .i64 x)) = if k = n then [.v (.int .i64 n), .v (.int .i64 x)] :: es else [.v (.int .i64 k), .v (.int .i64 b)] :: muI es n (.v (.int .i64 x)) := by
 unfold muI
 rw [mfind_consI]
 by_cases c : k = n
 ·rw [if_pos c, if_pos c]; rfl
 ·rw [if_neg c, if_neg c]
  cases mfind es n with
  | none => rfl
  | some p => rfl
theorem muiI {x n : Int} : ∀ {es : List (List L)}, WfI es -> WfI (muI es n (.v (.int .i64 x))) /\ ∀ m, mgiI (muI es n (.v (.int .i64 x))) m = if m = n then x else mgiI es m
 | [], _ => by
   refine ⟨fun e he => ?_, fun m => ?_⟩
   ·have : e = [.v (.int .i64 n), .v (.int .i64 x)] := by simpa [muI, mfind] using he
    exact ⟨n, x, this⟩
   ·show mgiI [[.v (.int .i64 n), .v (.int .i64 x)]] m = _
    rw [mgi_cons]
    by_cases c : m = n
    ·rw [if_pos c.symm, if_pos c]
    ·rw [if_neg (fun e => c e.symm), if_neg c]
 | e :: es, h => by
   obtain ⟨k, b, rfl⟩ := h e (by simp)
   have h' : WfI es := fun e he => h e (by simp [he])
   obtain ⟨a1, a2⟩ := muiI (x := x) (n := n) h'
   rw [mu_consI]
   by_cases c : k = n
   ·rw [if_pos c]
    refine ⟨fun e he => ?_, fun m => ?_⟩
    ·rcases List.mem_cons.1 he with rfl | he
     ·exact ⟨n, x, rfl⟩
     ·exact h' e he
    ·rw [mgi_cons, mgi_cons]
     by_cases d : m = n
     ·rw [if_pos d.symm, if_pos d]
     ·rw [if_neg (fun e => d e.symm), if_neg d, if_neg (fun e => d (by rw [<- e, c]))]
   ·rw [if_neg c]
    refine ⟨fun e he => ?_, fun m => ?_⟩
    ·rcases List.mem_cons.1 he with rfl | he
     ·exact ⟨k, b, rfl⟩
     ·exact a1 e he
    ·rw [mgi_cons, mgi_cons, a2 m]
     by_cases d : k = m
     ·rw [if_pos d, if_pos d, if_neg (fun e => c (d.trans e))]
     ·rw [if_neg d, if_neg d]
def huI (es : List (List L)) (a : Int) : List (List L) := muI es a (.v (.int .i64 (arI .add .i64 (mgiI es a) 1)))
structure CntM (es : List (List L)) (l : List Int) : Prop where
 wf : WfI es
 c : ∀ m, mgiI es m = (l.count m : Int)
theorem cm_0 : CntM [] [] := ⟨(fun e he => by cases he), fun m => rfl⟩
theorem cm_up {es : List (List L)} {l : List Int} {a : Int} (h : CntM es l) (hl : l.length <= 1099511627776) : CntM (huI es a) (l ++ [a]) := by
 have q := muiI (x := arI .add .i64 (mgiI es a) 1) (n := a) h.wf
 refine ⟨q.1, fun m => ?_⟩
 show mgiI (muI es a _) m = _
 have b : l.count a <= l.length := List.count_le_length
 have e := h.c a
 rw [q.2 m, List.count_append, show arI .add .i64 (mgiI es a) 1 = mgiI es a + 1 from add64 (by omega)]
 by_cases c : m = a
 ·subst c; rw [if_pos rfl, e]; simp
 ·rw [if_neg c, h.c m]
  have : [a].count m = 0 := List.count_eq_zero.2 (by simpa using c)
  rw [this]; rfl
def ivF (l : List (List L)) (f : Nat) : Nat -> List Int
 | 0 => []
 | n + 1 => ivF l f n ++ [giI l n f]
def clI (ls : List (List L)) : Nat -> List Int
 | 0 => []
 | n + 1 => clI ls n ++ ivF (gsI ls n 0) 0 (gsI ls n 0).length
def ccI (cs : List (List L)) : Nat -> List Int
 | 0 => []
 | n + 1 => ccI cs n ++ clI (gsI cs n 0) (gsI cs n 0).length
theorem ivF_len {l : List (List L)} {f : Nat} : ∀ n, (ivF l f n).length = n
 | 0 => rfl
 | n + 1 => by rw [ivF, List.length_append, ivF_len n]; rfl
theorem ivF_up {l : List (List L)} {f : Nat} {i : Int} (h : 0 <= i) : ivF l f (i + 1).toNat = ivF l f i.toNat ++ [giI l i f] := by
 rw [show (i + 1).toNat = i.toNat + 1 from by omega, ivF, Int.toNat_of_nonneg h]
theorem clI_up {l : List (List L)} {i : Int} (h : 0 <= i) : clI l (i + 1).toNat = clI l i.toNat ++ ivF (gsI l i 0) 0 (gsI l i 0).length := by
 rw [show (i + 1).toNat = i.toNat + 1 from by omega, clI, Int.toNat_of_nonneg h]
theorem ccI_up {l : List (List L)} {i : Int} (h : 0 <= i) : ccI l (i + 1).toNat = ccI l i.toNat ++ clI (gsI l i 0) (gsI l i 0).length := by
 rw [show (i + 1).toNat = i.toNat + 1 from by omega, ccI, Int.toNat_of_nonneg h]
theorem mem_ivF {l : List (List L)} {f : Nat} {x : Int} : ∀ {n}, x ∈ ivF l f n ↔ ∃ k : Nat, k < n /\ x = giI l k f
 | 0 => ⟨(fun h => by cases h), fun ⟨k, h, _⟩ => absurd h (Nat.not_lt_zero _)⟩
 | n + 1 => by
   rw [ivF, List.mem_append, mem_ivF, List.mem_singleton]
   constructor
   ·rintro (⟨k, h, e⟩ | e)
    ·exact ⟨k, by omega, e⟩
    ·exact ⟨n, by omega, e⟩
   ·rintro ⟨k, h, e⟩
    by_cases c : k = n
    ·subst c; exact .inr e
    ·exact .inl ⟨k, by omega, e⟩
theorem mem_clI {ls : List (List L)} {x : Int} : ∀ {n}, x ∈ clI ls n ↔ ∃ k : Nat, k < n /\ x ∈ ivF (gsI ls k 0) 0 (gsI ls k 0).length
 | 0 => ⟨(fun h => by cases h), fun ⟨k, h, _⟩ => absurd h (Nat.not_lt_zero _)⟩
 | n + 1 => by
   rw [clI, List.mem_append, mem_clI]
   constructor
   ·rintro (⟨k, h, e⟩ | e)
    ·exact ⟨k, by omega, e⟩
    ·exact ⟨n, by omega, e⟩
   ·rintro ⟨k, h, e⟩
    by_cases c : k = n
    ·subst c; exact .inr e
    ·exact .inl ⟨k, by omega, e⟩
theorem mem_ccI {cs : List (List L)} {x : Int} : ∀ {n}, x ∈ ccI cs n ↔ ∃ k : Nat, k < n /\ x ∈ clI (gsI cs k 0) (gsI cs k 0).length
 | 0 => ⟨(fun h => by cases h), fun ⟨k, h, _⟩ => absurd h (Nat.not_lt_zero _)⟩
 | n + 1 => by
   rw [ccI, List.mem_append, mem_ccI]
   constructor
   ·rintro (⟨k, h, e⟩ | e)
    ·exact ⟨k, by omega, e⟩
    ·exact ⟨n, by omega, e⟩
   ·rintro ⟨k, h, e⟩
    by_cases c : k = n
    ·subst c; exact .inr e
    ·exact .inl ⟨k, by omega, e⟩
theorem clI_len {ls : List (List L)} : ∀ n, n <= ls.length -> (clI ls n).length <= cntEs (ls.take n)
 | 0, _ => Nat.zero_le _
 | n + 1, h => by
   have q := clI_len n (by omega : n <= ls.length)
   have c := gs_cnt (es := ls) (n := n) (j := 0) (by omega)
   unfold cntE at c
   rw [clI, List.length_append, ivF_len, cntEs_take (by omega)]; omega
theorem ccI_len {cs : List (List L)} : ∀ n, n <= cs.length -> (ccI cs n).length <= cntEs (cs.take n)
 | 0, _ => Nat.zero_le _
 | n + 1, h => by
   have q := ccI_len n (by omega : n <= cs.length)
   have c := gs_cnt (es := cs) (n := n) (j := 0) (by omega)
   have d := clI_len (ls := gsI cs n 0) (gsI cs n 0).length (Nat.le_refl _)
   rw [List.take_length] at d
   unfold cntE at c
   rw [ccI, List.length_append, cntEs_take (by omega)]; omega
theorem cl2_len {cs : List (List L)} {i k : Int} (i0 : 0 <= i) (i1 : i < cs.length) (k1 : k <= (gsI cs i 0).length) : (ccI cs i.toNat ++ clI (gsI cs i 0) k.toNat).length + cntEs ((gsI cs i 0).drop k.toNat) <= cntEs cs := by
 have q := ccI_len (cs := cs) i.toNat (by omega)
 have c := cntEs_le (es := cs) (n := i.toNat + 1)
 have d := cntEs_take (es := cs) (n := i.toNat) (by omega)
 have e := gs_cnt (es := cs) (n := i.toNat) (j := 0) (by omega)
 rw [Int.toNat_of_nonneg i0] at e
 have f := clI_len (ls := gsI cs i 0) k.toNat (by omega)
 have g : cntEs (gsI cs i 0) = cntEs ((gsI cs i 0).take k.toNat) + cntEs ((gsI cs i 0).drop k.toNat) := by rw [<- cntEs_append, List.take_append_drop]
 rw [List.length_append]
 unfold cntE at e; omega
theorem cl3_len {cs : List (List L)} {i k j : Int} (i0 : 0 <= i) (i1 : i < cs.length) (k0 : 0 <= k) (k1 : k < (gsI cs i 0).length) (j0 : 0 <= j) (j1 : j <= (gsI (gsI cs i 0) k 0).length) : (ccI cs i.toNat ++ clI (gsI cs i 0) k.toNat ++ ivF (gsI (gsI cs i 0) k 0) 0 j.toNat).length <= cntEs cs := by
 have q := cl2_len i0 i1 (by omega : k <= (gsI cs i 0).length)
 have e := gs_cnt (es := gsI cs i 0) (n := k.toNat) (j := 0) (by omega)
 rw [Int.toNat_of_nonneg k0] at e
 have d : cntR ((gsI cs i 0).getD k.toNat []) <= cntEs ((gsI cs i 0).drop k.toNat) := by
  rw [List.drop_eq_getElem_cons (by omega)]
  rw [List.getD_eq_getElem?_getD, List.getElem?_eq_getElem (by omega)]
  simp [cntEs]
 rw [List.length_append, ivF_len]
 unfold cntE at e; omega
def hlB (sp lg : List (List L)) (a k : Int) : Bool := decide (dnK sp lg a = 1) && (decide (dnO sp lg a = 0) && (decide (k < 0) || decide (giI sp (dnI sp lg a) 1 = k)))
def jA (sp lg l : List (List L)) (k j : Int) : Bool := hlB sp lg (giI l j 0) k
def kA (sp lg ls : List (List L)) (k : Int) : Bool := allI (jA sp lg (gsI ls k 0) k) (gsI ls k 0).length
def iA (sp lg cs : List (List L)) (i : Int) : Bool := allI (kA sp lg (gsI cs i 0)) (gsI cs i 0).length
def qA (sp lg qs : List (List L)) (i : Int) : Bool := hlB sp lg (giI qs i 0) (giI qs i 1)
def sA (qs : List (List L)) (c i : Int) : Bool := decide (giI qs i 2 <= c)
def qsA (sp lg qs : List (List L)) (c i : Int) : Bool := qA sp lg qs i && sA qs c i
def hoA (os cs qs fl : List (List L)) : List Int := ccI cs cs.length ++ ivF qs 0 qs.length ++ ivF fl 0 fl.length ++ ivF os 1 os.length
def hoB (os cs qs fl : List (List L)) : List Int := ivF os 1 os.length ++ ccI cs cs.length ++ ivF qs 0 qs.length ++ ivF fl 0 fl.length
def c1A (l : List Int) (lv : List (List L)) (i : Int) : Bool := decide (l.count (giI lv i 0) = 1)
def hoI (sp lg os cs b x qs : List (List L)) (c : Int) : Bool := allI (iA sp lg cs) cs.length && (allI (qsA sp lg qs c) qs.length && (allI (jA sp lg (ifL b x) (-1)) (ifL b x).length && allI (c1A (hoA os cs qs (ifL b x)) (laL sp lg)) (laL sp lg).length))
def hoS (sp lg os cs b x qs : List (List L)) : Bool := allI (iA sp lg cs) cs.length && (allI (qA sp lg qs) qs.length && (allI (jA sp lg (ifL b x) (-1)) (ifL b x).length && (decide ((hoB os cs qs (ifL b x)).Nodup) && decide ((hoB os cs qs (ifL b x)).length = (laL sp lg).length))))
section
variable {sp lg os cs b x qs fl es : List (List L)} {i k j c : Int}
theorem iA_f (k0 : 0 <= k) (k1 : k < (gsI cs i 0).length) (j0 : 0 <= j) (j1 : j < (gsI (gsI cs i 0) k 0).length) (h : hlB sp lg (giI (gsI (gsI cs i 0) k 0) j 0) k = false) : iA sp lg cs i = false :=
 allI_f k0 k1 (allI_f (p := jA sp lg (gsI (gsI cs i 0) k 0) k) j0 j1 h)
theorem hoI_f1 (i0 : 0 <= i) (i1 : i < cs.length) (h : iA sp lg cs i = false) : hoI sp lg os cs b x qs c = false := by unfold hoI; rw [allI_f i0 i1 h]; rfl
theorem hoI_f2 (i0 : 0 <= i) (i1 : i < qs.length) (h : qsA sp lg qs c i = false) : hoI sp lg os cs b x qs c = false := by unfold hoI; rw [allI_f i0 i1 h]; simp
theorem hoI_f3 (i0 : 0 <= i) (i1 : i < (ifL b x).length) (h : hlB sp lg (giI (ifL b x) i 0) (-1) = false) : hoI sp lg os cs b x qs c = false := by unfold hoI; rw [allI_f (p := jA sp lg (ifL b x) (-1)) i0 i1 h]; simp
theorem hoI_f4 (i0 : 0 <= i) (i1 : i < (laL sp lg).length) (h : c1A (hoA os cs qs (ifL b x)) (laL sp lg) i = false) : hoI sp lg os cs b x qs c = false := by unfold hoI; rw [allI_f i0 i1 h]; simp
theorem hoS_f1 (i0 : 0 <= i) (i1 : i < cs.length) (h : iA sp lg cs i = false) : hoS sp lg os cs b x qs = false := by unfold hoS; rw [allI_f i0 i1 h]; rfl
theorem hoS_f2 (i0 : 0 <= i) (i1 : i < qs.length) (h : qA sp lg qs i = false) : hoS sp lg os cs b x qs = false := by unfold hoS; rw [allI_f i0 i1 h]; simp
theorem hoS_f3 (i0 : 0 <= i) (i1 : i < (ifL b x).length) (h : hlB sp lg (giI (ifL b x) i 0) (-1) = false) : hoS sp lg os cs b x qs = false := by unfold hoS; rw [allI_f (p := jA sp lg (ifL b x) (-1)) i0 i1 h]; simp
theorem qs_f1 (h : hlB sp lg (giI qs i 0) (giI qs i 1) = false) : qsA sp lg qs c i = false := by unfold qsA qA; rw [h]; rfl
theorem qs_f2 (h : c < giI qs i 2) : qsA sp lg qs c i = false := by unfold qsA sA; rw [decide_eq_false (by omega), Bool.and_false]
theorem qs_t (h : hlB sp lg (giI qs i 0) (giI qs i 1) = true) (g : giI qs i 2 <= c) : qsA sp lg qs c i = true := by unfold qsA qA sA; rw [h, decide_eq_true g]; rfl
structure HiP (sp lg cs : List (List L)) (i : Int) (es : List (List L)) : Prop where
 ok : upto (iA sp lg cs) i
 c : CntM es (ccI cs i.toNat)
structure HkP (sp lg cs : List (List L)) (i k : Int) (es : List (List L)) : Prop where
 ok : upto (iA sp lg cs) i
 ok2 : upto (kA sp lg (gsI cs i 0)) k
 c : CntM es (ccI cs i.toNat ++ clI (gsI cs i 0) k.toNat)
structure HjP (sp lg cs : List (List L)) (i k j : Int) (es : List (List L)) : Prop where
 ok : upto (iA sp lg cs) i
 ok2 : upto (kA sp lg (gsI cs i 0)) k
 ok3 : upto (jA sp lg (gsI (gsI cs i 0) k 0) k) j
 c : CntM es (ccI cs i.toNat ++ clI (gsI cs i 0) k.toNat ++ ivF (gsI (gsI cs i 0) k 0) 0 j.toNat)
structure HqP (sp lg cs qs : List (List L)) (t j : Int) (es : List (List L)) : Prop where
 ok : allI (iA sp lg cs) cs.length = true
 ok2 : upto (qsA sp lg qs t) j
 c : CntM es (ccI cs cs.length ++ ivF qs 0 j.toNat)
structure HfP (sp lg cs qs fl : List (List L)) (t j : Int) (es : List (List L)) : Prop where
 ok : allI (iA sp lg cs) cs.length = true
 ok2 : allI (qsA sp lg qs t) qs.length = true
 ok3 : upto (jA sp lg fl (-1)) j
 c : CntM es (ccI cs cs.length ++ ivF qs 0 qs.length ++ ivF fl 0 j.toNat)
structure HoP (sp lg os cs qs fl : List (List L)) (t j : Int) (es : List (List L)) : Prop where
 ok : allI (iA sp lg cs) cs.length = true
 ok2 : allI (qsA sp lg qs t) qs.length = true
 ok3 : allI (jA sp lg fl (-1)) fl.length = true
 c : CntM es (ccI cs cs.length ++ ivF qs 0 qs.length ++ ivF fl 0 fl.length ++ ivF os 1 j.toNat)
theorem hi_0 : HiP sp lg cs 0 [] := ⟨upto_z, cm_0⟩
theorem hk_0 (h : HiP sp lg cs i es) : HkP sp lg cs i 0 es := ⟨h.ok, upto_z, by simpa [clI] using h.c⟩
theorem hj_0 (h : HkP sp lg cs i k es) : HjP sp lg cs i k 0 es := ⟨h.ok, h.ok2, upto_z, by simpa [ivF] using h.c⟩
theorem hj_up (h : HjP sp lg cs i k j es) (i0 : 0 <= i) (i1 : i < cs.length) (k0 : 0 <= k) (k1 : k < (gsI cs i 0).length) (j0 : 0 <= j) (j1 : j < (gsI (gsI cs i 0) k 0).length) (hc : cntE cs <= 1073741824) (hh : hlB sp lg (giI (gsI (gsI cs i 0) k 0) j 0) k = true) :
 HjP sp lg cs i k (j + 1) (huI es (giI (gsI (gsI cs i 0) k 0) j 0)) := by
 have l := cl3_len (cs := cs) i0 i1 k0 k1 j0 (by omega)
 unfold cntE at hc
 exact ⟨h.ok, h.ok2, upto_s h.ok3 hh, by rw [ivF_up j0, <- List.append_assoc]; exact cm_up h.c (by omega)⟩
theorem hk_up (h : HjP sp lg cs i k j es) (k0 : 0 <= k) (j1 : j <= ((gsI (gsI cs i 0) k 0).length : Int)) (j2 : ((gsI (gsI cs i 0) k 0).length : Int) <= j) : HkP sp lg cs i (k + 1) es := by
 refine ⟨h.ok, upto_s h.ok2 (allI_of h.ok3 j2), ?_⟩
 have c := h.c
 rw [show j.toNat = (gsI (gsI cs i 0) k 0).length from by omega, List.append_assoc, <- clI_up k0] at c
 exact c
theorem hi_up (h : HkP sp lg cs i k es) (i0 : 0 <= i) (k1 : k <= ((gsI cs i 0).length : Int)) (k2 : ((gsI cs i 0).length : Int) <= k) : HiP sp lg cs (i + 1) es := by
 refine ⟨upto_s h.ok (allI_of h.ok2 k2), ?_⟩
 have c := h.c
 rw [show k.toNat = (gsI cs i 0).length from by omega, <- ccI_up i0] at c
 exact c
theorem hq_0 (h : HiP sp lg cs i es) (i1 : i <= cs.length) (i2 : (cs.length : Int) <= i) : HqP sp lg cs qs c 0 es :=
 ⟨allI_of h.ok i2, upto_z, by have c := h.c; rw [show i.toNat = cs.length from by omega] at c; simpa [ivF] using c⟩
theorem hq_up (h : HqP sp lg cs qs c j es) (j0 : 0 <= j) (j1 : j < qs.length) (hc : cntE cs <= 1073741824) (hq : qs.length <= 1073741824) (hh : qsA sp lg qs c j = true) : HqP sp lg cs qs c (j + 1) (huI es (giI qs j 0)) := by
 have l := ccI_len (cs := cs) cs.length (Nat.le_refl _)
 rw [List.take_length] at l
 unfold cntE at hc
 refine ⟨h.ok, upto_s h.ok2 hh, ?_⟩
 rw [ivF_up j0, <- List.append_assoc]
 refine cm_up h.c ?_
 rw [List.length_append, ivF_len]; omega
theorem hf_0 (h : HqP sp lg cs qs c i es) (i1 : i <= qs.length) (i2 : (qs.length : Int) <= i) : HfP sp lg cs qs fl c 0 es :=
 ⟨h.ok, allI_of h.ok2 i2, upto_z, by have c := h.c; rw [show i.toNat = qs.length from by omega] at c; simpa [ivF] using c⟩
theorem hf_up (h : HfP sp lg cs qs fl c j es) (j0 : 0 <= j) (j1 : j < fl.length) (hc : cntE cs <= 1073741824) (hq : qs.length <= 1073741824) (hf : fl.length <= 30) (hh : hlB sp lg (giI fl j 0) (-1) = true) : HfP sp lg cs qs fl c (j + 1) (huI es (giI fl j 0)) := by
 have l := ccI_len (cs := cs) cs.length (Nat.le_refl _)
 rw [List.take_length] at l
 unfold cntE at hc
 refine ⟨h.ok, h.ok2, upto_s h.ok3 hh, ?_⟩
 rw [ivF_up j0, <- List.append_assoc]
 refine cm_up h.c ?_
 rw [List.length_append, List.length_append, ivF_len, ivF_len]; omega
theorem ho_0 (h : HfP sp lg cs qs fl c i es) (i1 : i <= fl.length) (i2 : (fl.length : Int) <= i) : HoP sp lg os cs qs fl c 0 es :=
 ⟨h.ok, h.ok2, allI_of h.ok3 i2, by have c := h.c; rw [show i.toNat = fl.length from by omega] at c; simpa [ivF] using c⟩
theorem ho_up (h : HoP sp lg os cs qs fl c j es) (j0 : 0 <= j) (j1 : j < os.length) (hc : cntE cs <= 1073741824) (hq : qs.length <= 1073741824) (ho : os.length <= 1073741824) (hf : fl.length <= 30) : HoP sp lg os cs qs fl c (j + 1) (huI es (giI os j 1)) := by
 have l := ccI_len (cs := cs) cs.length (Nat.le_refl _)
 rw [List.take_length] at l
 unfold cntE at hc
 refine ⟨h.ok, h.ok2, h.ok3, ?_⟩
 rw [ivF_up j0, <- List.append_assoc]
 refine cm_up h.c ?_
 rw [List.length_append, List.length_append, List.length_append, ivF_len, ivF_len, ivF_len]; omega
structure HlP (sp lg os cs qs fl : List (List L)) (t i : Int) (es : List (List L)) : Prop where
 p : HoP sp lg os cs qs fl t os.length es
 ok : upto (c1A (hoA os cs qs fl) (laL sp lg)) i
theorem hl_0 (h : HoP sp lg os cs qs fl c i es) (i1 : i <= os.length) (i2 : (os.length : Int) <= i) : HlP sp lg os cs qs fl c 0 es := ⟨by rw [show (os.length : Int) = i from by omega]; exact h, upto_z⟩
theorem hl_c (h : HlP sp lg os cs qs fl c i es) (m : Int) : mgiI es m = ((hoA os cs qs fl).count m : Int) := by
 have q := h.p.c.c m
 rw [Int.toNat_natCast] at q; exact q
theorem hl_up (h : HlP sp lg os cs qs fl c i es) (e : mgiI es (giI (laL sp lg) i 0) = 1) : HlP sp lg os cs qs fl c (i + 1) es :=
 ⟨h.p, upto_s h.ok (by unfold c1A; rw [hl_c h] at e; exact decide_eq_true (by omega))⟩
theorem hl_f (h : HlP sp lg os cs qs (ifL b x) c i es) (i0 : 0 <= i) (i1 : i < (laL sp lg).length) (e : mgiI es (giI (laL sp lg) i 0) ≠ 1) : hoI sp lg os cs b x qs c = false :=
 hoI_f4 i0 i1 (by unfold c1A; rw [hl_c h] at e; exact decide_eq_false (by omega))
theorem hl_end (h : HlP sp lg os cs qs (ifL b x) c i es) (i2 : ((laL sp lg).length : Int) <= i) : hoI sp lg os cs b x qs c = true := by
 unfold hoI; rw [h.p.ok, h.p.ok2, h.p.ok3, allI_of h.ok i2]; rfl
end
end Go.V
namespace Go.V
structure S1P (os : List (List L)) (i : Int) (o : List (List L)) : Prop where
 e : o = rwL (ivF os 1 i.toNat)
structure S2P (sp lg os cs : List (List L)) (i : Int) (o : List (List L)) : Prop where
 ok : upto (iA sp lg cs) i
 e : o = rwL (ivF os 1 os.length ++ ccI cs i.toNat)
structure S3P (sp lg os cs : List (List L)) (i k : Int) (o : List (List L)) : Prop where
 ok : upto (iA sp lg cs) i
 ok2 : upto (kA sp lg (gsI cs i 0)) k
 e : o = rwL (ivF os 1 os.length ++ (ccI cs i.toNat ++ clI (gsI cs i 0) k.toNat))
structure S4P (sp lg os cs : List (List L)) (i k j : Int) (o : List (List L)) : Prop where
 ok : upto (iA sp lg cs) i
 ok2 : upto (kA sp lg (gsI cs i 0)) k
 ok3 : upto (jA sp lg (gsI (gsI cs i 0) k 0) k) j
 e : o = rwL (ivF os 1 os.length ++ (ccI cs i.toNat ++ clI (gsI cs i 0) k.toNat ++ ivF (gsI (gsI cs i 0) k 0) 0 j.toNat))
structure S5P (sp lg os cs qs : List (List L)) (j : Int) (o : List (List L)) : Prop where
 ok : allI (iA sp lg cs) cs.length = true
 ok2 : upto (qA sp lg qs) j
 e : o = rwL (ivF os 1 os.length ++ ccI cs cs.length ++ ivF qs 0 j.toNat)
structure S6P (sp lg os cs qs fl : List (List L)) (j : Int) (o : List (List L)) : Prop where
 ok : allI (iA sp lg cs) cs.length = true
 ok2 : allI (qA sp lg qs) qs.length = true
 ok3 : upto (jA sp lg fl (-1)) j
 e : o = rwL (ivF os 1 os.length ++ ccI cs cs.length ++ ivF qs 0 qs.length ++ ivF fl 0 j.toNat)
structure S7P (sp lg os cs qs fl : List (List L)) (j : Int) (o : List (List L)) : Prop where
 ok : allI (iA sp lg cs) cs.length = true
 ok2 : allI (qA sp lg qs) qs.length = true
 ok3 : allI (jA sp lg fl (-1)) fl.length = true
 e : o = rwL (hoB os cs qs fl)
 nd : ((hoB os cs qs fl).take j.toNat).Nodup
section
variable {sp lg os cs b x qs fl o : List (List L)} {i k j : Int}
theorem s1_0 : S1P os 0 [] := ⟨rfl⟩
theorem s1_l (h : S1P os i o) : o.length = i.toNat := by rw [h.e, rwL_len, ivF_len]
theorem s1_up (h : S1P os i o) (i0 : 0 <= i) : S1P os (i + 1) (o ++ [[.v (.int .i64 (giI os i 1))]]) := ⟨by rw [ivF_up i0, rwL_app, <- h.e]; rfl⟩
theorem s2_0 (h : S1P os i o) (i1 : i <= os.length) (i2 : (os.length : Int) <= i) : S2P sp lg os cs 0 o := ⟨upto_z, by rw [h.e, show i.toNat = os.length from by omega]; simp [ccI]⟩
theorem s3_0 (h : S2P sp lg os cs i o) : S3P sp lg os cs i 0 o := ⟨h.ok, upto_z, by rw [h.e]; simp [clI]⟩
theorem s4_0 (h : S3P sp lg os cs i k o) : S4P sp lg os cs i k 0 o := ⟨h.ok, h.ok2, upto_z, by rw [h.e]; simp [ivF]⟩
theorem s4_l (h : S4P sp lg os cs i k j o) (i0 : 0 <= i) (i1 : i < cs.length) (k0 : 0 <= k) (k1 : k < (gsI cs i 0).length) (j0 : 0 <= j) (j1 : j <= (gsI (gsI cs i 0) k 0).length) (hc : cntE cs <= 1073741824) (ho : os.length <= 1073741824) : o.length <= 2147483648 := by
 have l := cl3_len (cs := cs) i0 i1 k0 k1 j0 j1
 unfold cntE at hc
 rw [h.e, rwL_len, List.length_append, ivF_len]; omega
theorem s4_up (h : S4P sp lg os cs i k j o) (j0 : 0 <= j) (hh : hlB sp lg (giI (gsI (gsI cs i 0) k 0) j 0) k = true) : S4P sp lg os cs i k (j + 1) (o ++ [[.v (.int .i64 (giI (gsI (gsI cs i 0) k 0) j 0))]]) :=
 ⟨h.ok, h.ok2, upto_s h.ok3 hh, by rw [ivF_up j0, <- List.append_assoc (ccI cs i.toNat ++ clI (gsI cs i 0) k.toNat), <- List.append_assoc (ivF os 1 os.length), rwL_app, <- h.e]; rfl⟩
theorem s3_up (h : S4P sp lg os cs i k j o) (k0 : 0 <= k) (j1 : j <= ((gsI (gsI cs i 0) k 0).length : Int)) (j2 : ((gsI (gsI cs i 0) k 0).length : Int) <= j) : S3P sp lg os cs i (k + 1) o := by
 refine ⟨h.ok, upto_s h.ok2 (allI_of h.ok3 j2), ?_⟩
 rw [h.e, show j.toNat = (gsI (gsI cs i 0) k 0).length from by omega, List.append_assoc (ccI cs i.toNat), <- clI_up k0]
theorem s2_up (h : S3P sp lg os cs i k o) (i0 : 0 <= i) (k1 : k <= ((gsI cs i 0).length : Int)) (k2 : ((gsI cs i 0).length : Int) <= k) : S2P sp lg os cs (i + 1) o := by
 refine ⟨upto_s h.ok (allI_of h.ok2 k2), ?_⟩
 rw [h.e, show k.toNat = (gsI cs i 0).length from by omega, <- ccI_up i0]
theorem s5_0 (h : S2P sp lg os cs i o) (i1 : i <= cs.length) (i2 : (cs.length : Int) <= i) : S5P sp lg os cs qs 0 o := ⟨allI_of h.ok i2, upto_z, by rw [h.e, show i.toNat = cs.length from by omega]; simp [ivF]⟩
theorem s5_l (h : S5P sp lg os cs qs j o) (j1 : j <= qs.length) (hc : cntE cs <= 1073741824) (ho : os.length <= 1073741824) (hq : qs.length <= 1073741824) : o.length <= 4294967296 := by
 have l := ccI_len (cs := cs) cs.length (Nat.le_refl _)
 rw [List.take_length] at l
 unfold cntE at hc
 rw [h.e, rwL_len, List.length_append, List.length_append, ivF_len, ivF_len]; omega
theorem s5_up (h : S5P sp lg os cs qs j o) (j0 : 0 <= j) (hh : hlB sp lg (giI qs j 0) (giI qs j 1) = true) : S5P sp lg os cs qs (j + 1) (o ++ [[.v (.int .i64 (giI qs j 0))]]) :=
 ⟨h.ok, upto_s h.ok2 hh, by rw [ivF_up j0, <- List.append_assoc, rwL_app, <- h.e]; rfl⟩
theorem s6_0 (h : S5P sp lg os cs qs i o) (i1 : i <= qs.length) (i2 : (qs.length : Int) <= i) : S6P sp lg os cs qs fl 0 o := ⟨h.ok, allI_of h.ok2 i2, upto_z, by rw [h.e, show i.toNat = qs.length from by omega]; simp [ivF]⟩
theorem s6_l (h : S6P sp lg os cs qs fl j o) (j1 : j <= fl.length) (hc : cntE cs <= 1073741824) (ho : os.length <= 1073741824) (hq : qs.length <= 1073741824) (hf : fl.length <= 30) : o.length <= 4294967400 := by
 have l := ccI_len (cs := cs) cs.length (Nat.le_refl _)
 rw [List.take_length] at l
 unfold cntE at hc
 rw [h.e, rwL_len, List.length_append, List.length_append, List.length_append, ivF_len, ivF_len, ivF_len]; omega
theorem s6_up (h : S6P sp lg os cs qs fl j o) (j0 : 0 <= j) (hh : hlB sp lg (giI fl j 0) (-1) = true) : S6P sp lg os cs qs fl (j + 1) (o ++ [[.v (.int .i64 (giI fl j 0))]]) :=
 ⟨h.ok, h.ok2, upto_s h.ok3 hh, by rw [ivF_up j0, <- List.append_assoc, rwL_app, <- h.e]; rfl⟩
theorem s7_0 (h : S6P sp lg os cs qs fl i o) (i1 : i <= fl.length) (i2 : (fl.length : Int) <= i) : S7P sp lg os cs qs fl 0 o :=
 ⟨h.ok, h.ok2, allI_of h.ok3 i2, by rw [h.e, show i.toNat = fl.length from by omega]; rfl, List.nodup_nil⟩
theorem s7_l (h : S7P sp lg os cs qs fl j o) (hc : cntE cs <= 1073741824) (ho : os.length <= 1073741824) (hq : qs.length <= 1073741824) (hf : fl.length <= 30) : o.length <= 4294967400 := by
 have l := ccI_len (cs := cs) cs.length (Nat.le_refl _)
 rw [List.take_length] at l
 unfold cntE at hc
 rw [h.e, rwL_len]; unfold hoB; rw [List.length_append, List.length_append, List.length_append, ivF_len, ivF_len, ivF_len]; omega
theorem rwL_take {l : List Int} {n : Nat} : (rwL l).take n = rwL (l.take n) := by unfold rwL; rw [List.map_take]
theorem rwL_gi' {l : List Int} {i : Int} (h0 : 0 <= i) (h : i < (rwL l).length) : ∃ x, l[i.toNat]? = some x /\ giI (rwL l) i 0 = x := by
 rw [rwL_len] at h
 have q := rwL_gi (l := l) (k := i.toNat) (by omega)
 rw [Int.toNat_of_nonneg h0] at q
 exact ⟨_, List.getElem?_eq_getElem (by omega), q⟩
theorem s7_up (h : S7P sp lg os cs qs fl j o) (j0 : 0 <= j) (j1 : j < o.length) (hh : hasB (o.take j.toNat) (giI o j 0) = false) : S7P sp lg os cs qs fl (j + 1) o := by
 refine ⟨h.ok, h.ok2, h.ok3, h.e, ?_⟩
 have e := h.e
 rw [e] at j1 hh
 obtain ⟨v, q1, q2⟩ := rwL_gi' j0 j1
 rw [rwL_take, q2] at hh
 have nm := has_rwF hh
 rw [show (j + 1).toNat = j.toNat + 1 from by omega, List.take_succ, q1]
 exact nd_snoc h.nd nm
theorem s7_f (h : S7P sp lg os cs qs (ifL b x) j o) (j0 : 0 <= j) (j1 : j < o.length) (hh : hasB (o.take j.toNat) (giI o j 0) = true) : hoS sp lg os cs b x qs = false := by
 have e := h.e
 rw [e] at j1 hh
 obtain ⟨v, q1, q2⟩ := rwL_gi' j0 j1
 rw [rwL_take, q2, has_rwL] at hh
 have : ¬ (hoB os cs qs (ifL b x)).Nodup := fun nd => by
  have lt : j.toNat < (hoB os cs qs (ifL b x)).length := by rw [rwL_len] at j1; omega
  have sp := List.take_append_drop j.toNat (hoB os cs qs (ifL b x))
  rw [List.drop_eq_getElem_cons lt] at sp
  have gv : (hoB os cs qs (ifL b x))[j.toNat] = v := by rw [List.getElem?_eq_getElem lt] at q1; exact Option.some.inj q1
  rw [gv] at sp
  exact dup sp.symm hh nd
 unfold hoS; rw [decide_eq_false this]; simp
theorem s7_end (h : S7P sp lg os cs qs (ifL b x) j o) (j2 : (o.length : Int) <= j) : decide ((o.length : Int) = (laL sp lg).length) = hoS sp lg os cs b x qs := by
 have e := h.e
 have nd := h.nd
 have l : (hoB os cs qs (ifL b x)).length = o.length := by rw [e, rwL_len]
 rw [List.take_of_length_le (by omega)] at nd
 unfold hoS
 rw [h.ok, h.ok2, h.ok3, decide_eq_true nd, l]
 simp only [Bool.true_and]
 exact b_iff (by rw [decide_eq_true_eq, decide_eq_true_eq]; omega)
def inI (l : List Int) : Prop := ∀ v ∈ l, -9223372036854775808 <= v /\ v <= 9223372036854775807
theorem inI_app {l m : List Int} (h : inI l) (g : inI m) : inI (l ++ m) := fun v hv => by
 rcases List.mem_append.1 hv with q | q
 ·exact h v q
 ·exact g v q
theorem inI_iv {fs : List Ty} {l : List (List L)} {f : Nat} (h : Rw fs l) (hf : fs[f]? = some tI) : inI (ivF l f l.length) := fun v hv => by
 obtain ⟨n, n1, rfl⟩ := mem_ivF.1 hv
 exact gi_rg h hf (by omega)
theorem inI_cl {ls : List (List L)} (h : Rw [.sl [tI]] ls) : inI (clI ls ls.length) := fun v hv => by
 obtain ⟨n, n1, q⟩ := mem_clI.1 hv
 exact inI_iv (fs := [tI]) (Rw.sub (fs := [.sl [tI]]) h (by omega) rfl) rfl v q
theorem inI_cc {cs : List (List L)} (h : Rw [.sl [.sl [tI]]] cs) : inI (ccI cs cs.length) := fun v hv => by
 obtain ⟨n, n1, q⟩ := mem_ccI.1 hv
 exact inI_cl (Rw.sub (fs := [.sl [.sl [tI]]]) h (by omega) rfl) v q
theorem s7_rw (N : NsH sp lg os cs b x qs) (h : S7P sp lg os cs qs (ifL b x) j o) (n : Nat) : Rw [tI] (o.take n) := by
 have l := s7_l h N.cl N.ol N.ql if_len
 refine Rw.take ?_ n
 rw [h.e] at l ⊢
 rw [rwL_len] at l
 refine rwL_rw ?_ (by omega)
 unfold hoB
 exact inI_app (inI_app (inI_app (inI_iv N.ow rfl) (inI_cc N.cw)) (inI_iv N.qw rfl)) (inI_iv (if_rw N.m) rfl)
theorem hl_lv {a k : Int} (hl : layOk sp lg = true) (h : hlB sp lg a k = true) : lvB sp lg a = true := by
 unfold hlB at h
 simp only [Bool.and_eq_true, decide_eq_true_eq] at h
 exact (lv_dn hl).2 ⟨h.2.1, .inl h.1⟩
theorem ok_lv {a s : Int} (hl : layOk sp lg = true) (h : okO sp lg a s = true) : lvB sp lg a = true := by
 unfold okO at h
 simp only [Bool.and_eq_true, Bool.or_eq_true, decide_eq_true_eq] at h
 exact (lv_dn hl).2 ⟨h.1, h.2.elim (fun q => .inl q.1) (fun q => .inr q.1)⟩
def lvI (sp lg : List (List L)) : List Int := lvN sp lg 512
theorem la_lv (hl : layOk sp lg = true) : laL sp lg = rwL (lvI sp lg) := by unfold laL lvI; rw [if_pos hl, laN_eq]
theorem mem_lvI (hl : layOk sp lg = true) {a : Int} : a ∈ lvI sp lg ↔ lvB sp lg a = true := by
 unfold lvI
 rw [mem_lvN]
 constructor
 ·exact fun h => h.2.2
 ·intro h
  have F := lyF hl
  have v := lv_to F hl h
  have r : a ∈ iaA sp lg := mem_iaA.2 v
  refine ⟨?_, ?_, h⟩
  ·rcases v with ⟨i, k, i1, k1, _, e⟩ | ⟨j, j1, e⟩
   ·have ae := aa_eq (s := (k : Int)) (F.s i i1) (by omega) (by omega)
    have t := sp_t (F.s i i1); omega
   ·have t := lg_t (F.l j j1); omega
  ·rcases v with ⟨i, k, i1, k1, _, e⟩ | ⟨j, j1, e⟩
   ·have ae := aa_eq (s := (k : Int)) (F.s i i1) (by omega) (by omega)
    have t := sp_t (F.s i i1); omega
   ·have t := lg_t (F.l j j1); have b := pf_b t.1; omega
theorem nd_lvI : (lvI sp lg).Nodup := (pw_lvN 512).imp (fun h => by omega)
theorem perm_AB : (hoA os cs qs fl).Perm (hoB os cs qs fl) := by
 unfold hoA hoB
 have q := List.perm_append_comm (l₁ := ccI cs cs.length ++ ivF qs 0 qs.length ++ ivF fl 0 fl.length) (l₂ := ivF os 1 os.length)
 refine q.trans ?_
 rw [List.append_assoc, List.append_assoc, List.append_assoc]
theorem once_iff {l m : List Int} (hm : m.Nodup) (hs : ∀ v ∈ l, v ∈ m) : (∀ v ∈ m, l.count v = 1) ↔ l.Nodup /\ l.length = m.length := by
 constructor
 ·intro h
  have nd : l.Nodup := List.nodup_iff_count.2 (fun v => by
   by_cases c : v ∈ l
   ·rw [h v (hs v c)]; exact Nat.le_refl _
   ·rw [List.count_eq_zero.2 c]; omega)
  refine ⟨nd, ?_⟩
  have p : l.Perm m := by
   rw [List.perm_ext_iff_of_nodup nd hm]
   intro v
   refine ⟨hs v, fun hv => ?_⟩
   have := h v hv
   exact List.count_pos_iff.1 (by omega)
  exact p.length_eq
 ·rintro ⟨nd, len⟩ v hv
  have hv' : v ∈ l := by
   by_cases c : v ∈ l
   ·exact c
   ·exfalso
    have q := List.Nodup.length_le_of_subset (l₁ := v :: l) (l₂ := m) (List.nodup_cons.2 ⟨c, nd⟩) (fun y hy => by
     rcases List.mem_cons.1 hy with rfl | hy
     ·exact hv
     ·exact hs y hy)
    rw [List.length_cons] at q; omega
  have p1 := List.nodup_iff_count.1 nd v
  have p2 := List.count_pos_iff.2 hv'
  omega
theorem upto_allI {p : Int -> Bool} {n : Nat} (h : allI p n = true) : ∀ k : Nat, k < n -> p k = true := fun k hk => allI_t.1 h k (by omega) (by omega)
theorem qs_allI {c : Int} : allI (qsA sp lg qs c) qs.length = (allI (qA sp lg qs) qs.length && allI (sA qs c) qs.length) := by
 refine b_iff ?_
 rw [Bool.and_eq_true, allI_t, allI_t, allI_t]
 unfold upto qsA
 constructor
 ·intro h
  refine ⟨fun j h0 h1 => ?_, fun j h0 h1 => ?_⟩
  ·have := h j h0 h1; rw [Bool.and_eq_true] at this; exact this.1
  ·have := h j h0 h1; rw [Bool.and_eq_true] at this; exact this.2
 ·rintro ⟨h, g⟩ j h0 h1
  rw [h j h0 h1, g j h0 h1]; rfl
theorem ho_eq {nx c : Int} (hl : layOk sp lg = true) (ho : objOk sp lg os cs nx = true) : hoI sp lg os cs b x qs c = (hoS sp lg os cs b x qs && allI (sA qs c) qs.length) := by
 unfold hoI hoS
 rw [qs_allI]
 by_cases h1 : allI (iA sp lg cs) cs.length = true
 case neg => rw [Bool.not_eq_true] at h1; rw [h1]; rfl
 by_cases h2 : allI (qA sp lg qs) qs.length = true
 case neg => rw [Bool.not_eq_true] at h2; rw [h2]; simp
 by_cases h3 : allI (jA sp lg (ifL b x) (-1)) (ifL b x).length = true
 case neg => rw [Bool.not_eq_true] at h3; rw [h3]; simp
 have sub : ∀ v ∈ hoA os cs qs (ifL b x), v ∈ lvI sp lg := by
  intro v hv
  rw [mem_lvI hl]
  unfold hoA at hv
  rw [List.mem_append, List.mem_append, List.mem_append] at hv
  rcases hv with ((hv | hv) | hv) | hv
  ·obtain ⟨i, i1, hv⟩ := mem_ccI.1 hv
   obtain ⟨k, k1, hv⟩ := mem_clI.1 hv
   obtain ⟨j, j1, rfl⟩ := mem_ivF.1 hv
   have q1 := upto_allI h1 i i1
   have q2 := upto_allI q1 k k1
   have q3 := upto_allI q2 j j1
   exact hl_lv hl q3
  ·obtain ⟨j, j1, rfl⟩ := mem_ivF.1 hv
   exact hl_lv hl (upto_allI h2 j j1)
  ·obtain ⟨j, j1, rfl⟩ := mem_ivF.1 hv
   exact hl_lv hl (upto_allI h3 j j1)
  ·obtain ⟨j, j1, rfl⟩ := mem_ivF.1 hv
   have q := upto_allI ho j j1
   unfold obA at q
   simp only [Bool.and_eq_true] at q
   exact ok_lv hl q.2.2.2.2
 have key := once_iff nd_lvI sub
 have e1 : allI (c1A (hoA os cs qs (ifL b x)) (laL sp lg)) (laL sp lg).length = (decide (hoB os cs qs (ifL b x)).Nodup && decide ((hoB os cs qs (ifL b x)).length = (laL sp lg).length)) := by
  refine b_iff ?_
  rw [Bool.and_eq_true, decide_eq_true_eq, decide_eq_true_eq, <- perm_AB.nodup_iff, <- perm_AB.length_eq, la_lv hl, rwL_len, <- key]
  constructor
  ·intro h v hv
   obtain ⟨n, n1, rfl⟩ := List.mem_iff_getElem.1 hv
   have q := upto_allI h n n1
   unfold c1A at q
   rw [rwL_gi n1, decide_eq_true_eq] at q
   exact q
  ·intro h
   rw [allI_t]
   intro j h0 h1
   have n1 : j.toNat < (lvI sp lg).length := by omega
   have q := rwL_gi n1
   rw [Int.toNat_of_nonneg h0] at q
   unfold c1A
   rw [q, decide_eq_true_eq]
   exact h _ (List.getElem_mem n1)
 rw [h1, h2, h3, e1]
 simp only [Bool.true_and]
 exact Bool.and_comm _ _
end
end Go.V
namespace Go.V
theorem keyI_mu {n : Int} : ∀ {es : List (List L)}, WfB es -> ∀ m, m ∈ keyI (muI es n (.v (.bool true))) ↔ m ∈ keyI es \/ m = n
 | [], _, m => by
   show m ∈ keyI [[.v (.int .i64 n), .v (.bool true)]] ↔ _
   simp [keyI, kOf]
 | e :: es, h, m => by
   obtain ⟨k, b, rfl⟩ := h e (by simp)
   have h' : WfB es := fun e he => h e (by simp [he])
   have ih := keyI_mu (n := n) h' m
   rw [mu_cons]
   by_cases c : k = n
   ·rw [if_pos c]; subst c
    show m ∈ k :: keyI es ↔ m ∈ k :: keyI es \/ m = k
    simp only [List.mem_cons]
    constructor
    ·exact fun h => .inl h
    ·rintro (h | h)
     ·exact h
     ·exact .inl h
   ·rw [if_neg c]
    show m ∈ k :: keyI (muI es n (.v (.bool true))) ↔ m ∈ k :: keyI es \/ m = n
    simp only [List.mem_cons, ih, or_assoc]
structure OwnM (es : List (List L)) (l : List Int) : Prop where
 s : SeenB es l
 k : ∀ m, m ∈ keyI es ↔ m ∈ l
theorem own_0 : OwnM [] [] := ⟨seen_0, fun m => Iff.rfl⟩
theorem own_up {es : List (List L)} {l : List Int} {n : Int} (h : OwnM es l) : OwnM (muI es n (.v (.bool true))) (l ++ [n]) :=
 ⟨seen_up h.s, fun m => by rw [keyI_mu h.s.wf, h.k, List.mem_append, List.mem_singleton]⟩
def scA (sp : List (List L)) (i : Int) : Bool := !(decide (0 < i) && decide (giI sp i 0 <= giI sp (i - 1) 0))
def fg1 (es : List (List L)) (p : Int) : Bool := decide ((fpg es p).length = 1)
def lcA (es lg : List (List L)) (i : Int) : Bool := scA lg i && allI (fun k => fg1 es (giI lg i 0 + k)) (giI lg i 1).toNat
def ownB (sp lg : List (List L)) (p : Int) : Bool := decide (p ∈ pgL sp lg)
def mapB (es : List (List L)) (p : Int) : Bool := decide (peM es p ≠ 0)
def ecA (es fr sp lg : List (List L)) (p : Int) : Bool := (mapB es p == ownB sp lg p) && !(rhB fr p == ownB sp lg p)
def odB (es sp lg : List (List L)) : Bool := decide (∀ p ∈ pgL sp lg, p < es.length)
def mshA (sp : List (List L)) (i j : Int) : Bool := mshB (giI sp i 0) (giI sp i 1) (giI sp i 2) (giI sp j 0) (giI sp j 1) (giI sp j 2)
def m1A (es sp : List (List L)) (i j : Int) : Bool := !decide (peF es (giI sp i 0) = peF es (giI sp j 0)) || mshA sp i j
def meA (es sp : List (List L)) (i : Int) : Bool := allI (m1A es sp i) i.toNat
def m2A (es sp : List (List L)) (i k : Int) : Bool := decide (spI sp (giI (fpg es (giI sp i 0)) k 0) = i) || (decide (0 <= spI sp (giI (fpg es (giI sp i 0)) k 0)) && mshA sp i (spI sp (giI (fpg es (giI sp i 0)) k 0)))
def msA (es sp : List (List L)) (i : Int) : Bool := allI (m2A es sp i) (fpg es (giI sp i 0)).length
def pgI (es fr sp lg : List (List L)) : Bool := allI (scA sp) sp.length && (allI (lcA es lg) lg.length && (allI (ecA es fr sp lg) es.length && (odB es sp lg && allI (meA es sp) sp.length)))
def pgS (es fr sp lg : List (List L)) : Bool := allI (scA sp) sp.length && (allI (lcA es lg) lg.length && (odB es sp lg && allI (ecA es fr sp lg) es.length))
def smS (es sp : List (List L)) : Bool := allI (msA es sp) sp.length
section
variable {es fr sp lg m : List (List L)} {i j k p : Int} {vs : List Int}
theorem sc_no (h : 0 < i) (g : giI sp i 0 <= giI sp (i - 1) 0) : scA sp i = false := by unfold scA; rw [decide_eq_true h, decide_eq_true g]; rfl
theorem sc_t1 (h : i <= 0) : scA sp i = true := by unfold scA; rw [decide_eq_false (by omega)]; rfl
theorem sc_t2 (h : giI sp (i - 1) 0 < giI sp i 0) : scA sp i = true := by unfold scA; rw [decide_eq_false (p := giI sp i 0 <= _) (by omega)]; simp
theorem pi_f1 (i0 : 0 <= i) (i1 : i < sp.length) (h : scA sp i = false) : pgI es fr sp lg = false := by unfold pgI; rw [allI_f i0 i1 h]; rfl
theorem pi_f2 (i0 : 0 <= i) (i1 : i < lg.length) (h : lcA es lg i = false) : pgI es fr sp lg = false := by unfold pgI; rw [allI_f i0 i1 h]; simp
theorem pi_f3 (i0 : 0 <= i) (i1 : i < es.length) (h : ecA es fr sp lg i = false) : pgI es fr sp lg = false := by unfold pgI; rw [allI_f i0 i1 h]; simp
theorem pi_f4 (h : odB es sp lg = false) : pgI es fr sp lg = false := by unfold pgI; rw [h]; simp
theorem pi_f5 (i0 : 0 <= i) (i1 : i < sp.length) (h : meA es sp i = false) : pgI es fr sp lg = false := by unfold pgI; rw [allI_f i0 i1 h]; simp
theorem pi_t {a b c d : Int} (h1 : upto (scA sp) a) (g1 : (sp.length : Int) <= a) (h2 : upto (lcA es lg) b) (g2 : (lg.length : Int) <= b) (h3 : upto (ecA es fr sp lg) c) (g3 : (es.length : Int) <= c) (h4 : odB es sp lg = true) (h5 : upto (meA es sp) d) (g5 : (sp.length : Int) <= d) : pgI es fr sp lg = true := by
 unfold pgI; rw [allI_of h1 g1, allI_of h2 g2, allI_of h3 g3, h4, allI_of h5 g5]; rfl
theorem ps_f1 (i0 : 0 <= i) (i1 : i < sp.length) (h : scA sp i = false) : pgS es fr sp lg = false := by unfold pgS; rw [allI_f i0 i1 h]; rfl
theorem ps_f2 (i0 : 0 <= i) (i1 : i < lg.length) (h : lcA es lg i = false) : pgS es fr sp lg = false := by unfold pgS; rw [allI_f i0 i1 h]; simp
theorem ps_f3 (i0 : 0 <= i) (i1 : i < es.length) (h : ecA es fr sp lg i = false) : pgS es fr sp lg = false := by unfold pgS; rw [allI_f i0 i1 h]; simp
theorem ps_f4 (h : odB es sp lg = false) : pgS es fr sp lg = false := by unfold pgS; rw [h]; simp
theorem ps_t {a b c : Int} (h1 : upto (scA sp) a) (g1 : (sp.length : Int) <= a) (h2 : upto (lcA es lg) b) (g2 : (lg.length : Int) <= b) (h3 : upto (ecA es fr sp lg) c) (g3 : (es.length : Int) <= c) (h4 : odB es sp lg = true) : pgS es fr sp lg = true := by
 unfold pgS; rw [allI_of h1 g1, allI_of h2 g2, allI_of h3 g3, h4]; rfl
theorem lc_f1 (h : scA lg i = false) : lcA es lg i = false := by unfold lcA; rw [h]; rfl
theorem lc_f2 (k0 : 0 <= k) (k1 : k < giI lg i 1) (h : (fpg es (giI lg i 0 + k)).length ≠ 1) : lcA es lg i = false := by
 unfold lcA
 rw [allI_f (i := k) (n := (giI lg i 1).toNat) k0 (by omega) (show fg1 es (giI lg i 0 + k) = false from decide_eq_false h), Bool.and_false]
theorem lc_t (h : scA lg i = true) (g : upto (fun k => fg1 es (giI lg i 0 + k)) k) (k1 : giI lg i 1 <= k) (n0 : 0 <= giI lg i 1) : lcA es lg i = true := by
 unfold lcA; rw [h, allI_of g (by omega)]; rfl
theorem fg_up (g : upto (fun k => fg1 es (giI lg i 0 + k)) k) (h : (fpg es (giI lg i 0 + k)).length = 1) : upto (fun k => fg1 es (giI lg i 0 + k)) (k + 1) := upto_s g (decide_eq_true h)
structure PlP (es sp lg : List (List L)) (j : Int) (m : List (List L)) : Prop where
 ok : upto (lcA es lg) j
 o : OwnM m (spP sp sp.length ++ lgP lg j.toNat)
structure PkP (es sp lg : List (List L)) (j k : Int) (m : List (List L)) : Prop where
 ok : upto (lcA es lg) j
 h : scA lg j = true
 g : upto (fun k => fg1 es (giI lg j 0 + k)) k
 o : OwnM m (spP sp sp.length ++ lgP lg j.toNat ++ ptP (giI lg j 0) k.toNat)
theorem pl_0 (h : OwnM m (spP sp i.toNat)) (i1 : i <= sp.length) (i2 : (sp.length : Int) <= i) : PlP es sp lg 0 m := ⟨upto_z, by rw [show i.toNat = sp.length from by omega] at h; simpa [lgP] using h⟩
theorem pk_0 (h : PlP es sp lg j m) (g : scA lg j = true) : PkP es sp lg j (giI lg j 0 - giI lg j 0) m := by
 rw [Int.sub_self]; exact ⟨h.ok, g, upto_z, by simpa [ptP] using h.o⟩
theorem pk_up (h : PkP es sp lg j (p - giI lg j 0) m) (p0 : giI lg j 0 <= p) (g : (fpg es p).length = 1) : PkP es sp lg j (p + 1 - giI lg j 0) (muI m p (.v (.bool true))) := by
 have e : giI lg j 0 + (p - giI lg j 0) = p := by omega
 rw [show p + 1 - giI lg j 0 = (p - giI lg j 0) + 1 from by omega]
 refine ⟨h.ok, h.h, fg_up h.g (by rw [e]; exact g), ?_⟩
 rw [ptP_up (by omega), e, <- List.append_assoc]
 exact own_up h.o
theorem pk_no (p0 : giI lg j 0 <= p) (p1 : p < giI lg j 0 + giI lg j 1) (h : (fpg es p).length ≠ 1) : lcA es lg j = false :=
 lc_f2 (k := p - giI lg j 0) (by omega) (by omega) (by rw [show giI lg j 0 + (p - giI lg j 0) = p from by omega]; exact h)
theorem pl_up (h : PkP es sp lg j (p - giI lg j 0) m) (j0 : 0 <= j) (n0 : 0 <= giI lg j 1) (p1 : p <= giI lg j 0 + giI lg j 1) (p2 : giI lg j 0 + giI lg j 1 <= p) : PlP es sp lg (j + 1) m := by
 refine ⟨upto_s h.ok (lc_t h.h h.g (by omega) n0), ?_⟩
 have o := h.o
 rw [show (p - giI lg j 0).toNat = (giI lg j 1).toNat from by omega, List.append_assoc, <- lgP_up j0] at o
 exact o
theorem pl_o (h : PlP es sp lg j m) (j1 : j <= lg.length) (j2 : (lg.length : Int) <= j) : OwnM m (pgL sp lg) := by
 have o := h.o; rw [show j.toNat = lg.length from by omega] at o; exact o
theorem own_b (h : OwnM m (pgL sp lg)) (p : Int) : mgbI m p = ownB sp lg p := by
 refine b_iff ?_
 unfold ownB; rw [h.s.at_, decide_eq_true_eq]
theorem ec_f1 (h : mapB es p ≠ ownB sp lg p) : ecA es fr sp lg p = false := by unfold ecA; rw [beq_eq_false_iff_ne.2 h]; rfl
theorem ec_f2 (h : rhB fr p = ownB sp lg p) : ecA es fr sp lg p = false := by unfold ecA; rw [h]; simp
theorem ec_t (h : mapB es p = ownB sp lg p) (g : rhB fr p ≠ ownB sp lg p) : ecA es fr sp lg p = true := by unfold ecA; rw [h, beq_eq_false_iff_ne.2 g]; simp
theorem ec_f2' (h : mapB es p = rhB fr p) (g : mapB es p = ownB sp lg p) : ecA es fr sp lg p = false := ec_f2 (by rw [<- h, g])
theorem ec_t' (h : mapB es p ≠ rhB fr p) (g : mapB es p = ownB sp lg p) : ecA es fr sp lg p = true := ec_t g (fun e => h (by rw [g, e]))
theorem map_c (p0 : 0 <= p) (p1 : p < es.length) : cmpI .neq (giI es p 0) 0 = mapB es p := by rw [cmp_ne]; unfold mapB peM; rw [if_pos (by omega)]
theorem od_f (h : p ∈ pgL sp lg) (g : (es.length : Int) <= p) : odB es sp lg = false := decide_eq_false (fun c => by have := c p h; omega)
theorem od_t (o : OwnM m (pgL sp lg)) (h : ∀ k ∈ vs, k < es.length) (g : ∀ k ∈ keyI m, k ∈ vs) : odB es sp lg = true := decide_eq_true (fun p hp => h p (g p ((o.k p).2 hp)))
theorem vs_up {q : Int} (h : ∀ k ∈ vs, k < (es.length : Int)) (g : q < es.length) : ∀ k ∈ q :: vs, k < (es.length : Int) := fun k hk => by
 rcases List.mem_cons.1 hk with rfl | hk
 ·exact g
 ·exact h k hk
theorem me_f (j0 : 0 <= j) (j1 : j < i) (h : peF es (giI sp i 0) = peF es (giI sp j 0)) (g : mshA sp i j = false) : meA es sp i = false := by
 unfold meA; exact allI_f j0 (by omega) (by unfold m1A; rw [g, decide_eq_true h]; rfl)
theorem m1_t1 (h : peF es (giI sp i 0) ≠ peF es (giI sp j 0)) : m1A es sp i j = true := by unfold m1A; rw [decide_eq_false h]; rfl
theorem m1_t2 (h : mshA sp i j = true) : m1A es sp i j = true := by unfold m1A; rw [h, Bool.or_true]
theorem me_t (h : upto (m1A es sp i) j) (g : i <= j) (i0 : 0 <= i) : meA es sp i = true := by unfold meA; exact allI_of h (by omega)
structure QlP (es sp lg : List (List L)) (j : Int) (o : List (List L)) : Prop where
 ok : upto (lcA es lg) j
 e : o = rwL (spP sp sp.length ++ lgP lg j.toNat)
 l : (lgP lg j.toNat).length <= 64 * j.toNat
structure QkP (es sp lg : List (List L)) (j k : Int) (o : List (List L)) : Prop where
 ok : upto (lcA es lg) j
 h : scA lg j = true
 g : upto (fun k => fg1 es (giI lg j 0 + k)) k
 e : o = rwL (spP sp sp.length ++ lgP lg j.toNat ++ ptP (giI lg j 0) k.toNat)
 l : (lgP lg j.toNat).length <= 64 * j.toNat
structure QsP (sp : List (List L)) (i : Int) (o : List (List L)) : Prop where
 ok : upto (scA sp) i
 e : o = rwL (spP sp i.toNat)
variable {o : List (List L)}
theorem qs_0 : QsP sp 0 [] := ⟨upto_z, rfl⟩
theorem qs_l (h : QsP sp i o) : o.length = i.toNat := by rw [h.e, rwL_len, spP_len]
theorem qs_up (h : QsP sp i o) (i0 : 0 <= i) (g : scA sp i = true) : QsP sp (i + 1) (o ++ [[.v (.int .i64 (giI sp i 0))]]) := ⟨upto_s h.ok g, by rw [spP_up i0, rwL_app, <- h.e]; rfl⟩
theorem ql_0 (h : QsP sp i o) (i1 : i <= sp.length) (i2 : (sp.length : Int) <= i) : QlP es sp lg 0 o := ⟨upto_z, by rw [h.e, show i.toNat = sp.length from by omega]; simp [lgP], Nat.zero_le _⟩
theorem qk_0 (h : QlP es sp lg j o) (g : scA lg j = true) : QkP es sp lg j 0 o := ⟨h.ok, g, upto_z, by rw [h.e]; simp [ptP], h.l⟩
theorem qk_up (h : QkP es sp lg j k o) (k0 : 0 <= k) (g : (fpg es (giI lg j 0 + k)).length = 1) : QkP es sp lg j (k + 1) (o ++ [[.v (.int .i64 (giI lg j 0 + k))]]) :=
 ⟨h.ok, h.h, fg_up h.g g, by rw [ptP_up k0, <- List.append_assoc, rwL_app, <- h.e]; rfl, h.l⟩
theorem ql_up (h : QkP es sp lg j k o) (j0 : 0 <= j) (n0 : 0 <= giI lg j 1) (n1 : giI lg j 1 <= 64) (k1 : k <= giI lg j 1) (k2 : giI lg j 1 <= k) : QlP es sp lg (j + 1) o := by
 have l := h.l
 refine ⟨upto_s h.ok (lc_t h.h h.g k2 n0), ?_, ?_⟩
 ·rw [h.e, show k.toNat = (giI lg j 1).toNat from by omega, List.append_assoc, <- lgP_up j0]
 ·rw [lgP_up j0, List.length_append, ptP_len]; omega
theorem qk_l (h : QkP es sp lg j k o) (k1 : k <= 64) : o.length <= sp.length + 64 * j.toNat + 64 := by
 have l := h.l
 rw [h.e, rwL_len, List.length_append, List.length_append, spP_len, ptP_len]; omega
theorem ql_o (h : QlP es sp lg j o) (j1 : j <= lg.length) (j2 : (lg.length : Int) <= j) : o = rwL (pgL sp lg) := by
 have e := h.e; rw [show j.toNat = lg.length from by omega] at e; exact e
theorem pg_bd (hl : layOk sp lg = true) {x : Int} (h : x ∈ pgL sp lg) : 0 <= x /\ x <= 31 := by
 have F := lyF hl
 unfold pgL at h
 rw [List.mem_append, mem_spP, mem_lgP] at h
 rcases h with ⟨i, i1, e⟩ | ⟨j, j1, e1, e2⟩
 ·have t := sp_t (F.s i i1); omega
 ·have t := lg_t (F.l j j1); have b := pf_b t.1; omega
theorem ql_rw (hl : layOk sp lg = true) (h : QlP es sp lg j o) (j1 : j <= lg.length) (j2 : (lg.length : Int) <= j) (hs : sp.length <= 1073741824) (hg : lg.length <= 1073741824) : Rw [tI] o := by
 have l := h.l
 rw [ql_o h j1 j2]
 refine rwL_rw (fun x hx => by have := pg_bd hl hx; omega) ?_
 unfold pgL; rw [List.length_append, spP_len]
 rw [show j.toNat = lg.length from by omega] at l; omega
theorem ql_f (h : QlP es sp lg j o) (j1 : j <= lg.length) (j2 : (lg.length : Int) <= j) (i0 : 0 <= i) (i1 : i < o.length) (g : (es.length : Int) <= giI o i 0) : odB es sp lg = false := by
 have e := ql_o h j1 j2
 rw [e] at i1 g
 obtain ⟨v, q1, q2⟩ := rwL_gi' i0 i1
 rw [q2] at g
 exact od_f (List.mem_of_getElem? q1) g
theorem ql_t (h : QlP es sp lg j o) (j1 : j <= lg.length) (j2 : (lg.length : Int) <= j) (g : upto (fun t => decide (giI o t 0 < es.length)) i) (i2 : (o.length : Int) <= i) : odB es sp lg = true := by
 have e := ql_o h j1 j2
 refine decide_eq_true (fun p hp => ?_)
 obtain ⟨n, n1, rfl⟩ := List.mem_iff_getElem.1 hp
 have n2 : n < o.length := by rw [e, rwL_len]; exact n1
 have q := g n (by omega) (by omega)
 rw [decide_eq_true_eq, e, rwL_gi n1] at q
 exact q
theorem ql_h (h : QlP es sp lg j o) (j1 : j <= lg.length) (j2 : (lg.length : Int) <= j) (p : Int) : hasB o p = ownB sp lg p := by
 refine b_iff ?_
 rw [ql_o h j1 j2, has_rwL]; unfold ownB; rw [decide_eq_true_eq]
theorem ms_f1 (k0 : 0 <= k) (k1 : k < (fpg es (giI sp i 0)).length) (h : spI sp (giI (fpg es (giI sp i 0)) k 0) ≠ i) (g : spI sp (giI (fpg es (giI sp i 0)) k 0) < 0) : msA es sp i = false := by
 unfold msA; exact allI_f k0 k1 (by unfold m2A; rw [decide_eq_false h, decide_eq_false (by omega)]; rfl)
theorem ms_f2 (k0 : 0 <= k) (k1 : k < (fpg es (giI sp i 0)).length) (h : spI sp (giI (fpg es (giI sp i 0)) k 0) ≠ i) (g : mshA sp i (spI sp (giI (fpg es (giI sp i 0)) k 0)) = false) : msA es sp i = false := by
 unfold msA; exact allI_f k0 k1 (by unfold m2A; rw [decide_eq_false h, g]; simp)
theorem m2_t1 (h : spI sp (giI (fpg es (giI sp i 0)) k 0) = i) : m2A es sp i k = true := by unfold m2A; rw [decide_eq_true h]; rfl
theorem m2_t2 (h : 0 <= spI sp (giI (fpg es (giI sp i 0)) k 0)) (g : mshA sp i (spI sp (giI (fpg es (giI sp i 0)) k 0)) = true) : m2A es sp i k = true := by unfold m2A; rw [decide_eq_true h, g]; simp
theorem sp_bd {p : Int} (h : 0 <= spI sp p) : spI sp p < sp.length := by
 obtain ⟨b, _⟩ := first_p h; exact b
theorem and_comm64 {a b : Int} : arI .and .i64 a b = arI .and .i64 b a := by
 show IntKind.wrap .i64 ((BitVec.ofInt _ a &&& BitVec.ofInt _ b).toNat) = IntKind.wrap .i64 ((BitVec.ofInt _ b &&& BitVec.ofInt _ a).toNat)
 rw [BitVec.and_comm]
theorem msh_comm : mshA sp i j = mshA sp j i := by
 refine b_iff ?_
 unfold mshA mshB
 simp only [Bool.and_eq_true, decide_eq_true_eq]
 rw [and_comm64 (a := giI sp i 2)]
 constructor
 ·rintro ⟨a, b, c, d, e⟩; exact ⟨b, a, c.symm, fun h => d h.symm, e⟩
 ·rintro ⟨a, b, c, d, e⟩; exact ⟨b, a, c.symm, fun h => d h.symm, e⟩
theorem pgN_iff {es : List (List L)} {f : Int} : ∀ {n : Nat} {x : Int}, hasB (pgN es f n) x = true ↔ ∃ k : Nat, k < n /\ x = k /\ giI es k 0 ≠ 0 /\ giI es k 1 = f
 | 0, x => ⟨fun h => absurd (has_m.1 h) (List.not_mem_nil), fun ⟨k, h, _⟩ => absurd h (Nat.not_lt_zero _)⟩
 | n + 1, x => by
   by_cases c : giI es n 0 ≠ 0 /\ giI es n 1 = f
   ·rw [pgN_yes c.1 c.2, has_app, Bool.or_eq_true, pgN_iff, has_one]
    constructor
    ·rintro (⟨k, h, e⟩ | e)
     ·exact ⟨k, by omega, e⟩
     ·exact ⟨n, by omega, e.symm, c⟩
    ·rintro ⟨k, h, e, q⟩
     by_cases d : k = n
     ·subst d; exact .inr e.symm
     ·exact .inl ⟨k, by omega, e, q⟩
   ·have c' : giI es n 0 = 0 \/ giI es n 1 ≠ f := by
     by_cases z : giI es n 0 = 0
     ·exact .inl z
     ·exact .inr (fun e => c ⟨z, e⟩)
    rw [pgN_no c', pgN_iff]
    constructor
    ·rintro ⟨k, h, e⟩; exact ⟨k, by omega, e⟩
    ·rintro ⟨k, h, e, q⟩
     by_cases d : k = n
     ·subst d; exact absurd q c
     ·exact ⟨k, by omega, e, q⟩
theorem fpg_iff {p x : Int} : hasB (fpg es p) x = true ↔ peM es p ≠ 0 /\ 0 <= x /\ x < es.length /\ peM es x ≠ 0 /\ peF es x = peF es p := by
 by_cases c : peM es p = 0
 ·rw [fpg_no c]
  exact ⟨fun h => absurd (has_m.1 h) (List.not_mem_nil), fun h => absurd c h.1⟩
 ·rw [fpg_yes c]
  unfold pagesOn
  rw [pgN_iff]
  constructor
  ·rintro ⟨k, h, rfl, q1, q2⟩
   refine ⟨c, by omega, by omega, ?_, ?_⟩
   ·unfold peM; rw [if_pos (by omega)]; exact q1
   ·rw [show peF es k = giI es k 1 from by unfold peF; rw [if_pos (by omega)]]; exact q2
  ·rintro ⟨_, h0, h1, q1, q2⟩
   refine ⟨x.toNat, by omega, by omega, ?_, ?_⟩
   ·rw [Int.toNat_of_nonneg h0]; unfold peM at q1; rw [if_pos (by omega)] at q1; exact q1
   ·rw [Int.toNat_of_nonneg h0]; unfold peF at q2; rw [if_pos (c := 0 <= x /\ x < _) (by omega)] at q2; rw [q2]; rfl
theorem has_gi {l : List (List L)} {x : Int} : hasB l x = true ↔ ∃ k : Nat, k < l.length /\ giI l k 0 = x := has_t
theorem pg_eq (hl : layOk sp lg = true) : pgI es fr sp lg = (pgS es fr sp lg && smS es sp) := by
 have F := lyF hl
 unfold pgI pgS
 by_cases h1 : allI (scA sp) sp.length = true
 case neg => rw [Bool.not_eq_true] at h1; rw [h1]; rfl
 by_cases h2 : allI (lcA es lg) lg.length = true
 case neg => rw [Bool.not_eq_true] at h2; rw [h2]; simp
 by_cases h3 : allI (ecA es fr sp lg) es.length = true
 case neg => rw [Bool.not_eq_true] at h3; rw [h3]; simp
 by_cases h4 : odB es sp lg = true
 case neg => rw [Bool.not_eq_true] at h4; rw [h4]; simp
 rw [h1, h2, h3, h4]
 simp only [Bool.true_and]
 have h4' := of_decide_eq_true h4
 have mp : ∀ q : Int, 0 <= q -> q < es.length -> (peM es q ≠ 0 ↔ q ∈ pgL sp lg) := by
  intro q q0 q1
  have e := allI_t.1 h3 q q0 q1
  unfold ecA at e
  simp only [Bool.and_eq_true, beq_iff_eq] at e
  have e := e.1
  unfold mapB ownB at e
  constructor
  ·intro h; rw [decide_eq_true h] at e; exact of_decide_eq_true e.symm
  ·intro h; rw [decide_eq_true h] at e; exact of_decide_eq_true e
 have spg : ∀ n : Nat, n < sp.length -> giI sp n 0 ∈ pgL sp lg := fun n hn => List.mem_append.2 (.inl (mem_spP.2 ⟨n, hn, rfl⟩))
 have spm : ∀ n : Nat, n < sp.length -> 0 <= giI sp n 0 /\ giI sp n 0 < es.length /\ peM es (giI sp n 0) ≠ 0 := by
  intro n hn
  have b := pg_bd hl (spg n hn)
  have c := h4' _ (spg n hn)
  exact ⟨b.1, c, (mp _ b.1 c).2 (spg n hn)⟩
 have sat : ∀ n : Nat, n < sp.length -> spI sp (giI sp n 0) = n := by
  intro n hn
  have q := first_ge (p := isSp sp (giI sp n 0)) hn (eqB_t rfl)
  obtain ⟨q1, q2⟩ := first_p q
  obtain ⟨m, e⟩ := Int.eq_ofNat_of_zero_le q
  have e' : spI sp (giI sp n 0) = m := e
  rw [e] at q1 q2
  have := F.ss m n (by omega) hn (of_decide_eq_true q2)
  rw [e', this]
 refine b_iff ?_
 unfold smS
 rw [allI_t, allI_t]
 constructor
 ·intro h i i0 i1
  unfold msA
  rw [allI_t]
  intro k k0 k1
  obtain ⟨ii, rfl⟩ := Int.eq_ofNat_of_zero_le i0
  obtain ⟨kk, rfl⟩ := Int.eq_ofNat_of_zero_le k0
  have hx : hasB (fpg es (giI sp ii 0)) (giI (fpg es (giI sp ii 0)) kk 0) = true := has_gi.2 ⟨kk, by omega, rfl⟩
  generalize hX : giI (fpg es (giI sp ii 0)) kk 0 = x at hx
  obtain ⟨c1, c2, c3, c4, c5⟩ := fpg_iff.1 hx
  have hp := (mp x c2 c3).1 c4
  unfold pgL at hp
  rw [List.mem_append, mem_spP, mem_lgP] at hp
  unfold m2A
  rw [hX]
  rcases hp with ⟨n, n1, rfl⟩ | ⟨j, j1, e1, e2⟩
  ·rw [sat n n1]
   rcases Nat.lt_trichotomy n ii with c | c | c
   ·have q := allI_t.1 (h ii (by omega) i1) n (by omega) (by omega)
    unfold m1A at q
    rw [c5, decide_eq_true rfl] at q
    rw [show mshA sp ii n = true from by simpa using q, decide_eq_true (p := (0 : Int) <= n) (by omega)]; simp
   ·rw [c, decide_eq_true rfl]; rfl
   ·have q := allI_t.1 (h n (by omega) (by omega)) ii (by omega) (by omega)
    unfold m1A at q
    rw [c5, decide_eq_true rfl] at q
    have q' : mshA sp n ii = true := by simpa using q
    rw [msh_comm, q', decide_eq_true (p := (0 : Int) <= n) (by omega)]; simp
  ·exfalso
   have t := lg_t (F.l j j1); have b := pf_b t.1
   have q := upto_allI h2 j j1
   unfold lcA at q
   simp only [Bool.and_eq_true] at q
   have q2 := allI_t.1 q.2 (x - giI lg j 0) (by omega) (by omega)
   rw [show giI lg j 0 + (x - giI lg j 0) = x from by omega] at q2
   have q3 := of_decide_eq_true q2
   have s1 := spm ii (by omega)
   have a1 : hasB (fpg es x) x = true := fpg_iff.2 ⟨c4, c2, c3, c4, rfl⟩
   have a2 : hasB (fpg es x) (giI sp ii 0) = true := fpg_iff.2 ⟨c4, s1.1, s1.2.1, s1.2.2, c5.symm⟩
   obtain ⟨u, u1, u2⟩ := has_gi.1 a1
   obtain ⟨v, v1, v2⟩ := has_gi.1 a2
   have : u = v := by omega
   subst this
   rw [u2] at v2
   exact F.sl ii j (by omega) j1 (by omega) (by omega)
 ·intro h i i0 i1
  unfold meA
  rw [allI_t]
  intro j j0 j1
  obtain ⟨ii, rfl⟩ := Int.eq_ofNat_of_zero_le i0
  obtain ⟨jj, rfl⟩ := Int.eq_ofNat_of_zero_le j0
  unfold m1A
  by_cases c : peF es (giI sp ii 0) = peF es (giI sp jj 0)
  case neg => rw [decide_eq_false c]; rfl
  have s1 := spm ii (by omega)
  have s2 := spm jj (by omega)
  have a : hasB (fpg es (giI sp ii 0)) (giI sp jj 0) = true := fpg_iff.2 ⟨s1.2.2, s2.1, s2.2.1, s2.2.2, c.symm⟩
  obtain ⟨k, k1, k2⟩ := has_gi.1 a
  have q := h ii (by omega) i1
  unfold msA at q
  have q := upto_allI q k k1
  unfold m2A at q
  rw [k2, sat jj (by omega), decide_eq_false (p := (jj : Int) = ii) (by omega)] at q
  simp only [Bool.false_or, Bool.and_eq_true] at q
  rw [q.2, Bool.or_true]
end
end Go.V
namespace Go.V
def jobZ (k m : Int) (cs : List (List L)) (ph nx : Int) : Bool := decide (ph = 0) && (decide (nx = 0) && (decide (k = 0) && (decide (m = 0) && decide (cs.length = 0))))
def jobB (sp : List (List L)) (me : Bool) (k m : Int) (cs : List (List L)) (ph nx : Int) : Bool :=
 bif me then (jbOk k m cs ph nx && (decide (0 <= spI sp k) && decide (0 <= spI sp m))) else jobZ k m cs ph nx
def ccA (cs : List (List L)) (i : Int) : Bool := caOk (gsI cs i 0)
def hpI (a0 a1 a2 : List (List L)) (a3 : Int) (a4 a5 a6 a7 a8 a9 a10 a11 : List (List L)) (a12 : Int) (a13 : List (List L)) (a14 a15 a16 a17 : Int) (a18 : Bool) (a19 a20 : Int) (a21 : List (List L)) (a22 a23 : Int) : Bool :=
 kerOk a0 a1 a2 a3 a4 && (rgOk a2.length a5 && (layOk a6 a7 && (pgI a2 a5 a6 a7 && (mailOk a10 a11 && (decide (a9.length = a10.length) && (quarOk a12 a13 && (allI (ccA a9) a9.length &&
  (objOk a6 a7 a8 a9 a17 && (hoI a6 a7 a8 a9 a10 a11 a13 a15 && (inR a14 0 1073741823 && (inR a15 0 1000000 && (inR a16 0 1000 && (inR a17 1 1000000 && jobB a6 a18 a19 a20 a21 a22 a23)))))))))))))
structure HpN (a0 a1 a2 a4 a5 a6 a7 a8 a9 a10 a11 a13 a21 : List (List L)) : Prop where
 n : NsH a6 a7 a8 a9 a10 a11 a13
 c : Rw [.sl [tI]] a0
 u : Rw [tB] a1
 e : Rw [tI, tI] a2
 el : a2.length <= 1073741824
 r : Rw [tI] a4
 f : Rw [tI, tI] a5
 fl : a5.length <= 1073741824
 j : Rw [tI] a21
 jl : a21.length <= 1073741824
section
variable {a0 a1 a2 : List (List L)} {a3 : Int} {a4 a5 a6 a7 a8 a9 a10 a11 : List (List L)} {a12 : Int} {a13 : List (List L)} {a14 a15 a16 a17 : Int} {a18 : Bool} {a19 a20 : Int} {a21 : List (List L)} {a22 a23 : Int} {i : Int}
theorem hp_k (h : kerOk a0 a1 a2 a3 a4 = false) : hpI a0 a1 a2 a3 a4 a5 a6 a7 a8 a9 a10 a11 a12 a13 a14 a15 a16 a17 a18 a19 a20 a21 a22 a23 = false := by unfold hpI; rw [h]; simp
theorem hp_r (h : rgOk a2.length a5 = false) : hpI a0 a1 a2 a3 a4 a5 a6 a7 a8 a9 a10 a11 a12 a13 a14 a15 a16 a17 a18 a19 a20 a21 a22 a23 = false := by unfold hpI; rw [h]; simp
theorem hp_l (h : layOk a6 a7 = false) : hpI a0 a1 a2 a3 a4 a5 a6 a7 a8 a9 a10 a11 a12 a13 a14 a15 a16 a17 a18 a19 a20 a21 a22 a23 = false := by unfold hpI; rw [h]; simp
theorem hp_p (h : pgI a2 a5 a6 a7 = false) : hpI a0 a1 a2 a3 a4 a5 a6 a7 a8 a9 a10 a11 a12 a13 a14 a15 a16 a17 a18 a19 a20 a21 a22 a23 = false := by unfold hpI; rw [h]; simp
theorem hp_m (h : mailOk a10 a11 = false) : hpI a0 a1 a2 a3 a4 a5 a6 a7 a8 a9 a10 a11 a12 a13 a14 a15 a16 a17 a18 a19 a20 a21 a22 a23 = false := by unfold hpI; rw [h]; simp
theorem hp_n (h : decide (a9.length = a10.length) = false) : hpI a0 a1 a2 a3 a4 a5 a6 a7 a8 a9 a10 a11 a12 a13 a14 a15 a16 a17 a18 a19 a20 a21 a22 a23 = false := by unfold hpI; rw [h]; simp
theorem hp_q (h : quarOk a12 a13 = false) : hpI a0 a1 a2 a3 a4 a5 a6 a7 a8 a9 a10 a11 a12 a13 a14 a15 a16 a17 a18 a19 a20 a21 a22 a23 = false := by unfold hpI; rw [h]; simp
theorem hp_c (h : allI (ccA a9) a9.length = false) : hpI a0 a1 a2 a3 a4 a5 a6 a7 a8 a9 a10 a11 a12 a13 a14 a15 a16 a17 a18 a19 a20 a21 a22 a23 = false := by unfold hpI; rw [h]; simp
theorem hp_o (h : objOk a6 a7 a8 a9 a17 = false) : hpI a0 a1 a2 a3 a4 a5 a6 a7 a8 a9 a10 a11 a12 a13 a14 a15 a16 a17 a18 a19 a20 a21 a22 a23 = false := by unfold hpI; rw [h]; simp
theorem hp_h (h : hoI a6 a7 a8 a9 a10 a11 a13 a15 = false) : hpI a0 a1 a2 a3 a4 a5 a6 a7 a8 a9 a10 a11 a12 a13 a14 a15 a16 a17 a18 a19 a20 a21 a22 a23 = false := by unfold hpI; rw [h]; simp
theorem hp_s (h : inR a14 0 1073741823 = false) : hpI a0 a1 a2 a3 a4 a5 a6 a7 a8 a9 a10 a11 a12 a13 a14 a15 a16 a17 a18 a19 a20 a21 a22 a23 = false := by unfold hpI; rw [h]; simp
theorem hp_t (h : inR a15 0 1000000 = false) : hpI a0 a1 a2 a3 a4 a5 a6 a7 a8 a9 a10 a11 a12 a13 a14 a15 a16 a17 a18 a19 a20 a21 a22 a23 = false := by unfold hpI; rw [h]; simp
theorem hp_w (h : inR a16 0 1000 = false) : hpI a0 a1 a2 a3 a4 a5 a6 a7 a8 a9 a10 a11 a12 a13 a14 a15 a16 a17 a18 a19 a20 a21 a22 a23 = false := by unfold hpI; rw [h]; simp
theorem hp_x (h : inR a17 1 1000000 = false) : hpI a0 a1 a2 a3 a4 a5 a6 a7 a8 a9 a10 a11 a12 a13 a14 a15 a16 a17 a18 a19 a20 a21 a22 a23 = false := by unfold hpI; rw [h]; simp
theorem hp_n' (h : (a9.length : Int) ≠ a10.length) : hpI a0 a1 a2 a3 a4 a5 a6 a7 a8 a9 a10 a11 a12 a13 a14 a15 a16 a17 a18 a19 a20 a21 a22 a23 = false := hp_n (decide_eq_false (by omega))
theorem hp_c' (i0 : 0 <= i) (i1 : i < a9.length) (h : caOk (gsI a9 i 0) = false) : hpI a0 a1 a2 a3 a4 a5 a6 a7 a8 a9 a10 a11 a12 a13 a14 a15 a16 a17 a18 a19 a20 a21 a22 a23 = false := hp_c (allI_f i0 i1 h)
theorem hpOk_t (hk : kerOk a0 a1 a2 a3 a4 = true) (hr : rgOk a2.length a5 = true) (hl : layOk a6 a7 = true) (hp : pgI a2 a5 a6 a7 = true) (hm : mailOk a10 a11 = true) (hn : decide (a9.length = a10.length) = true) (hq : quarOk a12 a13 = true) (hc : allI (ccA a9) a9.length = true) (ho : objOk a6 a7 a8 a9 a17 = true) (hh : hoI a6 a7 a8 a9 a10 a11 a13 a15 = true) (hs : inR a14 0 1073741823 = true) (ht : inR a15 0 1000000 = true) (hw : inR a16 0 1000 = true) (hx : inR a17 1 1000000 = true) : hpI a0 a1 a2 a3 a4 a5 a6 a7 a8 a9 a10 a11 a12 a13 a14 a15 a16 a17 a18 a19 a20 a21 a22 a23 = jobB a6 a18 a19 a20 a21 a22 a23 := by unfold hpI; rw [hk, hr, hl, hp, hm, hn, hq, hc, ho, hh, hs, ht, hw, hx]; rfl
structure HpT (a0 a1 a2 : List (List L)) (a3 : Int) (a4 a5 a6 a7 a8 a9 a10 a11 : List (List L)) (a12 : Int) (a13 : List (List L)) (a14 a15 a16 a17 : Int) (a18 : Bool) (a19 a20 : Int) (a21 : List (List L)) (a22 a23 : Int) : Prop where
 k : kerOk a0 a1 a2 a3 a4 = true
 r : rgOk a2.length a5 = true
 l : layOk a6 a7 = true
 p : pgI a2 a5 a6 a7 = true
 m : mailOk a10 a11 = true
 n : decide (a9.length = a10.length) = true
 q : quarOk a12 a13 = true
 c : allI (ccA a9) a9.length = true
 o : objOk a6 a7 a8 a9 a17 = true
 h : hoI a6 a7 a8 a9 a10 a11 a13 a15 = true
 s : inR a14 0 1073741823 = true
 t : inR a15 0 1000000 = true
 w : inR a16 0 1000 = true
 x : inR a17 1 1000000 = true
 j : jobB a6 a18 a19 a20 a21 a22 a23 = true
theorem job_1 (h : jbOk a19 a20 a21 a22 a23 = false) : false = jobB a6 true a19 a20 a21 a22 a23 := by unfold jobB; rw [h]; rfl
theorem job_2 (h : spI a6 a19 < 0) : false = jobB a6 true a19 a20 a21 a22 a23 := by unfold jobB; rw [decide_eq_false (p := 0 <= spI a6 a19) (by omega)]; simp
theorem job_3 (h : jbOk a19 a20 a21 a22 a23 = true) (g : 0 <= spI a6 a19) : cmpI .geq (spI a6 a20) 0 = jobB a6 true a19 a20 a21 a22 a23 := by unfold jobB; rw [h, decide_eq_true g]; rfl
theorem sub_s (h : allI (sA a13 a15) a13.length = false) (hl : layOk a6 a7 = true) (ho : objOk a6 a7 a8 a9 a17 = true) : hoI a6 a7 a8 a9 a10 a11 a13 a15 = false := by rw [ho_eq hl ho, h, Bool.and_false]
theorem hp_s' (i0 : 0 <= i) (i1 : i < a13.length) (h : a15 < giI a13 i 2) (hl : layOk a6 a7 = true) : hpI a0 a1 a2 a3 a4 a5 a6 a7 a8 a9 a10 a11 a12 a13 a14 a15 a16 a17 a18 a19 a20 a21 a22 a23 = false := by
 by_cases ho : objOk a6 a7 a8 a9 a17 = true
 ·exact hp_h (sub_s (allI_f i0 i1 (by unfold sA; exact decide_eq_false (by omega))) hl ho)
 ·exact hp_o (by simpa using ho)
theorem hp_pS (hl : layOk a6 a7 = true) (h : pgS a2 a5 a6 a7 = false) : hpI a0 a1 a2 a3 a4 a5 a6 a7 a8 a9 a10 a11 a12 a13 a14 a15 a16 a17 a18 a19 a20 a21 a22 a23 = false := hp_p (by rw [pg_eq hl, h]; rfl)
theorem hp_mS (hl : layOk a6 a7 = true) (h : smS a2 a6 = false) : hpI a0 a1 a2 a3 a4 a5 a6 a7 a8 a9 a10 a11 a12 a13 a14 a15 a16 a17 a18 a19 a20 a21 a22 a23 = false := hp_p (by rw [pg_eq hl, h, Bool.and_false])
theorem hp_hS (hl : layOk a6 a7 = true) (ho : objOk a6 a7 a8 a9 a17 = true) (h : hoS a6 a7 a8 a9 a10 a11 a13 = false) : hpI a0 a1 a2 a3 a4 a5 a6 a7 a8 a9 a10 a11 a12 a13 a14 a15 a16 a17 a18 a19 a20 a21 a22 a23 = false := hp_h (by rw [ho_eq hl ho, h]; rfl)
theorem pg_t (hl : layOk a6 a7 = true) (h : pgS a2 a5 a6 a7 = true) (g : smS a2 a6 = true) : pgI a2 a5 a6 a7 = true := by rw [pg_eq hl, h, g]; rfl
theorem ho_t (hl : layOk a6 a7 = true) (ho : objOk a6 a7 a8 a9 a17 = true) (h : hoS a6 a7 a8 a9 a10 a11 a13 = true) (i2 : (a13.length : Int) <= i) (g : upto (sA a13 a15) i) : hoI a6 a7 a8 a9 a10 a11 a13 a15 = true := by rw [ho_eq hl ho, h, allI_of g i2]; rfl
theorem sA_t (h : giI a13 i 2 <= a15) : sA a13 a15 i = true := decide_eq_true h
end
theorem hpN_of {a0 a1 a2 a4 a5 a6 a7 a8 a9 a10 a11 a13 a21 : List (List L)} (h0 : Rw [.sl [tI]] a0) (h1 : Rw [tB] a1) (h2 : Rw [tI, tI] a2) (h4 : Rw [tI] a4) (h5 : Rw [tI, tI] a5) (h6 : Rw [tI, tI, tI] a6) (h7 : Rw [tI, tI, tI] a7) (h8 : Rw [tI, tI, tI, tI] a8) (h9 : Rw [.sl [.sl [tI]]] a9) (h10 : Rw [.sl [tI, tI]] a10) (h11 : Rw [.sl [tI]] a11) (h13 : Rw [tI, tI, tI] a13) (h21 : Rw [tI] a21) 
 (hs : cntE a0 <= 1048576 /\ cntE a1 <= 1048576 /\ cntE a2 <= 1048576 /\ cntE a4 <= 1048576 /\ cntE a5 <= 1048576 /\ cntE a6 <= 1048576 /\ cntE a7 <= 1048576 /\ cntE a8 <= 1048576 /\ cntE a9 <= 1048576 /\ cntE a10 <= 1048576 /\ cntE a11 <= 1048576 /\ cntE a13 <= 1048576 /\ cntE a21 <= 1048576) : HpN a0 a1 a2 a4 a5 a6 a7 a8 a9 a10 a11 a13 a21 := by
 obtain ⟨c0, c1, c2, c4, c5, c6, c7, c8, c9, c10, c11, c13, c21⟩ := hs
 exact ⟨nsH_of h6 h7 h8 h9 h10 h11 h13 c6 c7 c8 c9 c10 c11 c13, h0, h1, h2, by unfold cntE at c2; omega, h4, h5, by unfold cntE at c5; omega, h21, by unfold cntE at c21; omega⟩
end Go.V