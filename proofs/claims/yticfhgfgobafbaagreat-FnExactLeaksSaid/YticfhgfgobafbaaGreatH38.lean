/-
  The addresses in use: gathered and sorted, or picked out of all: the same.
-/import Derived.Test.YticfhgfgobafbaaGreatH37
set_option linter.all false
namespace Go.V
theorem asc_unique : ∀ {a b : List Int}, a.Pairwise (· < ·) -> b.Pairwise (· < ·) -> (∀ x, x ∈ a ↔ x ∈ b) -> a = b
 | [], [], _, _, _ => rfl
 | [], y :: b, _, _, h => by have := (h y).2 (by simp); simp at this
 | x :: a, [], _, _, h => by have := (h x).1 (by simp); simp at this
 | x :: a, y :: b, ha, hb, h => by
   rw [List.pairwise_cons] at ha hb
   have e : x = y := by
    rcases List.mem_cons.1 ((h x).1 (by simp)) with q | q
    ·exact q
    ·rcases List.mem_cons.1 ((h y).2 (by simp)) with r | r
     ·exact r.symm
     ·have := hb.1 x q; have := ha.1 y r; omega
   subst e
   rw [asc_unique ha.2 hb.2 (fun z => ?_)]
   constructor
   ·intro m
    rcases List.mem_cons.1 ((h z).1 (by simp [m])) with q | q
    ·have := ha.1 z m; omega
    ·exact q
   ·intro m
    rcases List.mem_cons.1 ((h z).2 (by simp [m])) with q | q
    ·have := hb.1 z m; omega
    ·exact q
theorem mem_spP {sp : List (List L)} {x : Int} : ∀ {n : Nat}, x ∈ spP sp n ↔ ∃ i : Nat, i < n /\ giI sp i 0 = x
 | 0 => by simp [spP]
 | n + 1 => by
   rw [spP, List.mem_append, mem_spP, List.mem_singleton]
   constructor
   ·rintro (⟨i, h, e⟩ | rfl)
    ·exact ⟨i, by omega, e⟩
    ·exact ⟨n, by omega, rfl⟩
   ·rintro ⟨i, h, e⟩
    by_cases c : i = n
    ·subst c; exact .inr e.symm
    ·exact .inl ⟨i, by omega, e⟩
theorem mem_ptP {p x : Int} : ∀ {n : Nat}, x ∈ ptP p n ↔ p <= x /\ x < p + n
 | 0 => ⟨(fun h => by cases h), (fun h => absurd h (by omega))⟩
 | n + 1 => by
   rw [ptP, List.mem_append, mem_ptP, List.mem_singleton]; omega
theorem mem_lgP {lg : List (List L)} {x : Int} : ∀ {n : Nat}, x ∈ lgP lg n ↔ ∃ j : Nat, j < n /\ giI lg j 0 <= x /\ x < giI lg j 0 + (giI lg j 1).toNat
 | 0 => by simp [lgP]
 | n + 1 => by
   rw [lgP, List.mem_append, mem_lgP, mem_ptP]
   constructor
   ·rintro (⟨i, h, e⟩ | h)
    ·exact ⟨i, by omega, e⟩
    ·exact ⟨n, by omega, h⟩
   ·rintro ⟨i, h, e⟩
    by_cases c : i = n
    ·subst c; exact .inr e
    ·exact .inl ⟨i, by omega, e⟩
theorem sp_ne {sp : List (List L)} : ∀ {n : Nat}, (spP sp n).Nodup -> ∀ i i' : Nat, i < i' -> i' < n -> giI sp i 0 ≠ giI sp i' 0
 | 0, _, i, i', _, h => by omega
 | n + 1, hn, i, i', h1, h2 => by
   rw [spP, List.nodup_append] at hn
   by_cases c : i' = n
   ·subst c
    exact hn.2.2 _ (mem_spP.2 ⟨i, h1, rfl⟩) _ (by simp)
   ·exact sp_ne hn.1 i i' h1 (by omega)
theorem lg_ne {lg : List (List L)} : ∀ {n : Nat}, (lgP lg n).Nodup -> ∀ (j j' : Nat) (x : Int), j < j' -> j' < n -> giI lg j 0 <= x -> x < giI lg j 0 + (giI lg j 1).toNat -> giI lg j' 0 <= x -> x < giI lg j' 0 + (giI lg j' 1).toNat -> False
 | 0, _, j, j', x, _, h, _, _, _, _ => by omega
 | n + 1, hn, j, j', x, h1, h2, a, b, c, d => by
   rw [lgP, List.nodup_append] at hn
   by_cases e : j' = n
   ·subst e
    exact hn.2.2 x (mem_lgP.2 ⟨j, h1, a, b⟩) x (mem_ptP.2 ⟨c, d⟩) rfl
   ·exact lg_ne hn.1 j j' x h1 (by omega) a b c d
structure LyF (sp lg : List (List L)) : Prop where
 s : ∀ i : Nat, i < sp.length -> spOk (giI sp i 0) (giI sp i 1) (giI sp i 2) = true
 l : ∀ j : Nat, j < lg.length -> lgOk (giI lg j 0) (giI lg j 1) (giI lg j 2) = true
 ss : ∀ i i' : Nat, i < sp.length -> i' < sp.length -> giI sp i 0 = giI sp i' 0 -> i = i'
 sl : ∀ i j : Nat, i < sp.length -> j < lg.length -> giI lg j 0 <= giI sp i 0 -> giI sp i 0 < giI lg j 0 + giI lg j 1 -> False
 ll : ∀ (j j' : Nat) (x : Int), j < lg.length -> j' < lg.length -> giI lg j 0 <= x -> x < giI lg j 0 + giI lg j 1 -> giI lg j' 0 <= x -> x < giI lg j' 0 + giI lg j' 1 -> j = j'
theorem lyF {sp lg : List (List L)} (h : layOk sp lg = true) : LyF sp lg := by
 obtain ⟨h1, h2, h3⟩ := lay_t h
 unfold pgL at h3
 rw [List.nodup_append] at h3
 have n0 : ∀ j : Nat, j < lg.length -> ((giI lg j 1).toNat : Int) = giI lg j 1 := fun j hj => by
  have t := lg_t (h2 j (by omega) (by omega)); have b := pf_b t.1; omega
 refine ⟨fun i hi => h1 i (by omega) (by omega), fun j hj => h2 j (by omega) (by omega), fun i i' a b e => ?_, fun i j a b c d => ?_, fun j j' x a b c d e f => ?_⟩
 ·rcases Nat.lt_trichotomy i i' with q | q | q
  ·exact absurd e (sp_ne h3.1 i i' q b)
  ·exact q
  ·exact absurd e.symm (sp_ne h3.1 i' i q a)
 ·exact h3.2.2 _ (mem_spP.2 ⟨i, a, rfl⟩) _ (mem_lgP.2 ⟨j, b, c, by rw [n0 j b]; exact d⟩) rfl
 ·rcases Nat.lt_trichotomy j j' with q | q | q
  ·exact (lg_ne h3.2.1 j j' x q b c (by rw [n0 j a]; exact d) e (by rw [n0 j' b]; exact f)).elim
  ·exact q
  ·exact (lg_ne h3.2.1 j' j x q a e (by rw [n0 j' b]; exact f) c (by rw [n0 j a]; exact d)).elim
theorem aa_eq {p k b s : Int} (h : spOk p k b = true) (h0 : 0 <= s) (h1 : s < slN k) : aaI p k b s = p * 16 + s * clsSz k /\ 0 <= s * clsSz k /\ s * clsSz k + clsSz k <= 16 /\ 1 <= clsSz k := by
 have t := sp_t h
 have c := cls_b t.2.2.1
 have a : aaB p k b s = true := by unfold aaB; rw [h, inR_t.2 ⟨h0, by omega⟩]; rfl
 have m0 : 0 <= s * clsSz k := Int.mul_nonneg h0 (by omega)
 have m1 : (s + 1) * clsSz k <= slN k * clsSz k := Int.mul_le_mul_of_nonneg_right (by omega) (by omega)
 rw [Int.add_mul] at m1
 unfold aaI; rw [if_pos a]
 exact ⟨rfl, m0, by omega, by omega⟩
theorem mem_iaK {sp : List (List L)} {i x : Int} : ∀ {n : Nat}, x ∈ iaK sp i n ↔ ∃ k : Nat, k < n /\ hsB (giI sp i 2) k = true /\ x = aaI (giI sp i 0) (giI sp i 1) (giI sp i 2) k
 | 0 => by simp [iaK]
 | n + 1 => by
   rw [iaK, List.mem_append, mem_iaK]
   constructor
   ·rintro (⟨k, h, e⟩ | h)
    ·exact ⟨k, by omega, e⟩
    ·by_cases c : hsB (giI sp i 2) n = true
     ·rw [if_pos c, List.mem_singleton] at h
      exact ⟨n, by omega, c, h⟩
     ·rw [if_neg c] at h; simp at h
   ·rintro ⟨k, h, c, e⟩
    by_cases q : k = n
    ·subst q; rw [if_pos c]; exact .inr (by simp [e])
    ·exact .inl ⟨k, by omega, c, e⟩
theorem mem_iaS {sp : List (List L)} {x : Int} : ∀ {n : Nat}, x ∈ iaS sp n ↔ ∃ i k : Nat, i < n /\ k < (slN (giI sp i 1)).toNat /\ hsB (giI sp i 2) k = true /\ x = aaI (giI sp i 0) (giI sp i 1) (giI sp i 2) k
 | 0 => by simp [iaS]
 | n + 1 => by
   rw [iaS, List.mem_append, mem_iaS, mem_iaK]
   constructor
   ·rintro (⟨i, k, h, e⟩ | ⟨k, h⟩)
    ·exact ⟨i, k, by omega, e⟩
    ·exact ⟨n, k, by omega, h⟩
   ·rintro ⟨i, k, h, e⟩
    by_cases q : i = n
    ·subst q; exact .inr ⟨k, e⟩
    ·exact .inl ⟨i, k, by omega, e⟩
theorem mem_iaG {lg : List (List L)} {x : Int} : ∀ {n : Nat}, x ∈ iaG lg n ↔ ∃ j : Nat, j < n /\ x = giI lg j 0 * 16
 | 0 => by simp [iaG]
 | n + 1 => by
   rw [iaG, List.mem_append, mem_iaG, List.mem_singleton]
   constructor
   ·rintro (⟨i, h, e⟩ | h)
    ·exact ⟨i, by omega, e⟩
    ·exact ⟨n, by omega, h⟩
   ·rintro ⟨i, h, e⟩
    by_cases q : i = n
    ·subst q; exact .inr e
    ·exact .inl ⟨i, by omega, e⟩
theorem iaK_nd {sp : List (List L)} {i : Nat} (h : spOk (giI sp i 0) (giI sp i 1) (giI sp i 2) = true) : ∀ {n : Nat}, n <= (slN (giI sp i 1)).toNat -> (iaK sp i n).Nodup
 | 0, _ => List.nodup_nil
 | n + 1, hn => by
   rw [iaK]
   by_cases c : hsB (giI sp i 2) n = true
   ·rw [if_pos c]
    refine nd_snoc (iaK_nd h (by omega)) (fun m => ?_)
    obtain ⟨k, k1, _, k3⟩ := mem_iaK.1 m
    have a := aa_eq (s := (n : Int)) h (by omega) (by omega)
    have b := aa_eq (s := (k : Int)) h (by omega) (by omega)
    have q : ((k : Int) + 1) * clsSz (giI sp i 1) <= (n : Int) * clsSz (giI sp i 1) := Int.mul_le_mul_of_nonneg_right (by omega) (by omega)
    rw [Int.add_mul] at q
    omega
   ·rw [if_neg c, List.append_nil]; exact iaK_nd h (by omega)
theorem iaS_nd {sp lg : List (List L)} (F : LyF sp lg) : ∀ {n : Nat}, n <= sp.length -> (iaS sp n).Nodup
 | 0, _ => List.nodup_nil
 | n + 1, hn => by
   rw [iaS, List.nodup_append]
   refine ⟨iaS_nd F (by omega), iaK_nd (F.s n (by omega)) (Nat.le_refl _), fun x hx y hy e => ?_⟩
   subst e
   obtain ⟨i, k, i1, k1, _, e1⟩ := mem_iaS.1 hx
   obtain ⟨k', k2, _, e2⟩ := mem_iaK.1 hy
   have a := aa_eq (s := (k : Int)) (F.s i (by omega)) (by omega) (by omega)
   have b := aa_eq (s := (k' : Int)) (F.s n (by omega)) (by omega) (by omega)
   have := F.ss i n (by omega) (by omega) (by omega)
   omega
theorem iaG_nd {sp lg : List (List L)} (F : LyF sp lg) : ∀ {n : Nat}, n <= lg.length -> (iaG lg n).Nodup
 | 0, _ => List.nodup_nil
 | n + 1, hn => by
   rw [iaG]
   refine nd_snoc (iaG_nd F (by omega)) (fun m => ?_)
   obtain ⟨j, j1, e⟩ := mem_iaG.1 m
   have t := lg_t (F.l j (by omega)); have b := pf_b t.1
   have t' := lg_t (F.l n (by omega)); have b' := pf_b t'.1
   have := F.ll j n (giI lg j 0) (by omega) (by omega) (by omega) (by omega) (by omega) (by omega)
   omega
theorem iaA_nd {sp lg : List (List L)} (F : LyF sp lg) : (iaA sp lg).Nodup := by
 unfold iaA
 rw [List.nodup_append]
 refine ⟨iaS_nd F (Nat.le_refl _), iaG_nd F (Nat.le_refl _), fun x hx y hy e => ?_⟩
 subst e
 obtain ⟨i, k, i1, k1, _, e1⟩ := mem_iaS.1 hx
 obtain ⟨j, j1, e2⟩ := mem_iaG.1 hy
 have a := aa_eq (s := (k : Int)) (F.s i (by omega)) (by omega) (by omega)
 have t := lg_t (F.l j (by omega)); have b := pf_b t.1
 exact F.sl i j i1 j1 (by omega) (by omega)
end Go.V