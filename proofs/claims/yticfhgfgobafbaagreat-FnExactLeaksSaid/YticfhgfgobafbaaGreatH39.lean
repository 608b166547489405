/-
  The addresses in use, sorted, are those picked out of all.
-/import Derived.Test.YticfhgfgobafbaaGreatH38
set_option linter.all false
namespace Go.V
theorem first_p {p : Int -> Bool} {n : Nat} (h : 0 <= firstI p n) : firstI p n < n /\ p (firstI p n) = true := by
 refine ⟨by rcases first_bd (p := p) (n := n) with q | q <;> omega, ?_⟩
 unfold firstI at h ⊢
 split at h
 ·rename_i j e
  have q := List.find?_some e
  exact q
 ·omega
theorem first_ge {p : Int -> Bool} {n i : Nat} (h : i < n) (hp : p i = true) : 0 <= firstI p n := by
 unfold firstI
 split
 ·omega
 ·rename_i e
  rw [List.find?_eq_none] at e
  exact absurd hp (e i (List.mem_range.2 h))
theorem sAt_t {sp : List (List L)} {a i : Int} : sAt sp a i = true ↔ saB (giI sp i 0) (giI sp i 1) (giI sp i 2) a = true := by
 unfold sAt
 rw [decide_eq_true_eq]
 constructor
 ·intro h
  cases c : saB (giI sp i 0) (giI sp i 1) (giI sp i 2) a with
  | true => rfl
  | false => rw [(sa_no c).1] at h; omega
 ·intro h
  obtain ⟨h1, h2, h3⟩ := sa_t.1 h
  have cb := cls_b (sp_t h1).2.2.1
  rw [(sa_yes h).1]
  exact Int.ediv_nonneg (by omega) (by omega)
def lvP (sp lg : List (List L)) (x : Int) : Prop := (∃ i k : Nat, i < sp.length /\ k < (slN (giI sp i 1)).toNat /\ hsB (giI sp i 2) k = true /\ x = aaI (giI sp i 0) (giI sp i 1) (giI sp i 2) k) \/ ∃ j : Nat, j < lg.length /\ x = giI lg j 0 * 16
theorem mem_iaA {sp lg : List (List L)} {x : Int} : x ∈ iaA sp lg ↔ lvP sp lg x := by
 unfold iaA lvP
 rw [List.mem_append, mem_iaS, mem_iaG]
theorem dn_s {sp lg : List (List L)} {a : Int} (h : 0 <= fsI sp a) : dnK sp lg a = (if hsB (giI sp (fsI sp a) 2) (slA sp a (fsI sp a)) then 1 else 2) /\ dnO sp lg a = soA sp a (fsI sp a) := by
 unfold dnK dnO; rw [if_pos h, if_pos h]; exact ⟨rfl, rfl⟩
theorem dn_l {sp lg : List (List L)} {a : Int} (h : ¬ 0 <= fsI sp a) (g : 0 <= flI lg a) : dnK sp lg a = 3 /\ dnO sp lg a = loA lg a (flI lg a) := by
 unfold dnK dnO; rw [if_neg h, if_neg h, if_pos g, if_pos g]; exact ⟨rfl, rfl⟩
theorem dn_0 {sp lg : List (List L)} {a : Int} (h : ¬ 0 <= fsI sp a) (g : ¬ 0 <= flI lg a) : dnK sp lg a = 0 /\ dnO sp lg a = 0 := by
 unfold dnK dnO; rw [if_neg h, if_neg h, if_neg g, if_neg g]; exact ⟨rfl, rfl⟩
theorem lv_dn {sp lg : List (List L)} {a : Int} (hl : layOk sp lg = true) : lvB sp lg a = true ↔ dnO sp lg a = 0 /\ (dnK sp lg a = 1 \/ dnK sp lg a = 3) := by
 unfold lvB dzO dzK
 rw [if_pos hl, if_pos hl]
 simp only [Bool.and_eq_true, Bool.or_eq_true, decide_eq_true_eq]
theorem lv_to {sp lg : List (List L)} {x : Int} (F : LyF sp lg) (hl : layOk sp lg = true) (h : lvB sp lg x = true) : lvP sp lg x := by
 obtain ⟨h1, h2⟩ := (lv_dn hl).1 h
 by_cases c : 0 <= fsI sp x
 ·obtain ⟨d1, d2⟩ := dn_s (lg := lg) c
  obtain ⟨b, q⟩ := first_p c
  change fsI sp x < sp.length at b
  change sAt sp x (fsI sp x) = true at q
  rw [d1] at h2; rw [d2] at h1
  generalize hF : fsI sp x = f at *
  obtain ⟨f, rfl⟩ := Int.eq_ofNat_of_zero_le c
  have bf : f < sp.length := by omega
  have q' := sAt_t.1 q
  obtain ⟨a1, a2, a3⟩ := sa_t.1 q'
  obtain ⟨e1, e2⟩ := sa_yes q'
  have cb := cls_b (sp_t a1).2.2.1
  have hh : hsB (giI sp f 2) (slA sp x f) = true := by
   cases c : hsB (giI sp f 2) (slA sp x f) with
   | true => rfl
   | false => rw [c] at h2; simp at h2
  unfold soA at h1
  rw [e2] at h1
  unfold slA at hh
  rw [e1] at hh
  have dv : clsSz (giI sp f 1) * ((x - giI sp f 0 * 16) / clsSz (giI sp f 1)) = x - giI sp f 0 * 16 := Int.mul_ediv_cancel_of_emod_eq_zero h1
  have nn : 0 <= (x - giI sp f 0 * 16) / clsSz (giI sp f 1) := Int.ediv_nonneg (by omega) (by omega)
  generalize hs : (x - giI sp f 0 * 16) / clsSz (giI sp f 1) = s at *
  have lt : s < slN (giI sp f 1) := by
   by_cases w : s < slN (giI sp f 1)
   ·exact w
   ·have m : slN (giI sp f 1) * clsSz (giI sp f 1) <= s * clsSz (giI sp f 1) := Int.mul_le_mul_of_nonneg_right (by omega) (by omega)
    rw [Int.mul_comm s] at m
    omega
  obtain ⟨s, rfl⟩ := Int.eq_ofNat_of_zero_le nn
  have ae := aa_eq a1 nn lt
  refine .inl ⟨f, s, bf, by omega, hh, ?_⟩
  have ae1 := ae.1
  rw [Int.mul_comm (s : Int)] at ae1
  show x = aaI (giI sp f 0) (giI sp f 1) (giI sp f 2) s
  rw [ae1]
  omega
 ·by_cases g : 0 <= flI lg x
  ·obtain ⟨d1, d2⟩ := dn_l c g
   obtain ⟨b, q⟩ := first_p g
   change flI lg x < lg.length at b
   change lAt lg x (flI lg x) = true at q
   rw [d2] at h1
   generalize hF : flI lg x = f at *
   obtain ⟨f, rfl⟩ := Int.eq_ofNat_of_zero_le g
   refine .inr ⟨f, by omega, ?_⟩
   unfold loA loI at h1
   unfold lAt at q
   rw [if_pos q] at h1
   show x = giI lg f 0 * 16
   omega
  ·obtain ⟨d1, d2⟩ := dn_0 c g
   rw [d1] at h2; omega
theorem fs_pg {sp lg : List (List L)} {x : Int} (h : 0 <= fsI sp x) : ∃ f : Nat, fsI sp x = f /\ f < sp.length /\ saB (giI sp f 0) (giI sp f 1) (giI sp f 2) x = true := by
 obtain ⟨b, q⟩ := first_p h
 obtain ⟨f, e⟩ := Int.eq_ofNat_of_zero_le h
 refine ⟨f, e, ?_, ?_⟩
 ·have : fsI sp x < sp.length := b
  rw [e] at this; exact Int.ofNat_lt.1 this
 ·have : sAt sp x (fsI sp x) = true := q
  rw [e] at this; exact sAt_t.1 this
theorem lv_of {sp lg : List (List L)} {x : Int} (F : LyF sp lg) (hl : layOk sp lg = true) (h : lvP sp lg x) : lvB sp lg x = true := by
 rw [lv_dn hl]
 rcases h with ⟨i, k, i1, k1, hh, e⟩ | ⟨j, j1, e⟩
 ·have a1 := F.s i i1
  have cb := cls_b (sp_t a1).2.2.1
  have ae := aa_eq (s := (k : Int)) a1 (by omega) (by omega)
  have sb : saB (giI sp i 0) (giI sp i 1) (giI sp i 2) x = true := sa_t.2 ⟨a1, by omega, by omega⟩
  have c : 0 <= fsI sp x := first_ge i1 (sAt_t.2 sb)
  obtain ⟨f, e1, f1, f2⟩ := fs_pg (lg := lg) c
  obtain ⟨_, g2, g3⟩ := sa_t.1 f2
  have : f = i := F.ss f i f1 i1 (by omega)
  subst this
  obtain ⟨d1, d2⟩ := dn_s (lg := lg) c
  rw [d1, d2, e1]
  obtain ⟨y1, y2⟩ := sa_yes sb
  have xe : x - giI sp f 0 * 16 = k * clsSz (giI sp f 1) := by omega
  unfold slA soA
  rw [y1, y2, xe, Int.mul_ediv_cancel _ (by omega), if_pos hh]
  exact ⟨Int.mul_emod_left _ _, .inl rfl⟩
 ·have t := lg_t (F.l j j1); have b := pf_b t.1; have r := inR_t.1 t.1
  have c : ¬ 0 <= fsI sp x := fun c => by
   obtain ⟨f, e1, f1, f2⟩ := fs_pg (lg := lg) c
   obtain ⟨_, g2, g3⟩ := sa_t.1 f2
   exact F.sl f j f1 j1 (by omega) (by omega)
  have lb : lhB (giI lg j 0) (giI lg j 1) (giI lg j 2) x = true := lh_t.2 ⟨F.l j j1, by omega, by omega⟩
  have g : 0 <= flI lg x := first_ge j1 (show lAt lg x j = true from lb)
  obtain ⟨d1, d2⟩ := dn_l c g
  obtain ⟨b1, q⟩ := first_p g
  change flI lg x < lg.length at b1
  change lAt lg x (flI lg x) = true at q
  rw [d1, d2]
  generalize hF : flI lg x = f at *
  obtain ⟨f, rfl⟩ := Int.eq_ofNat_of_zero_le g
  have f1 : f < lg.length := by omega
  have q' : lhB (giI lg f 0) (giI lg f 1) (giI lg f 2) x = true := q
  obtain ⟨_, u1, u2⟩ := lh_t.1 q'
  have t2 := lg_t (F.l f f1); have b2 := pf_b t2.1
  have : f = j := F.ll f j (giI lg j 0) f1 j1 (by omega) (by omega) (by omega) (by omega)
  subst this
  refine ⟨?_, .inr rfl⟩
  show loI (giI lg f 0) (giI lg f 1) (giI lg f 2) x = 0
  unfold loI; rw [if_pos lb]; omega
def lvN (sp lg : List (List L)) : Nat -> List Int
 | 0 => []
 | n + 1 => lvN sp lg n ++ (if lvB sp lg n then [(n : Int)] else [])
theorem laN_eq {sp lg : List (List L)} : ∀ n : Nat, laN sp lg n = rwL (lvN sp lg n)
 | 0 => rfl
 | n + 1 => by
   rw [laN, lvN, rwL_app, laN_eq n]
   by_cases c : lvB sp lg n = true
   ·rw [if_pos c, if_pos c]; rfl
   ·rw [if_neg c, if_neg c]; rfl
theorem mem_lvN {sp lg : List (List L)} {x : Int} : ∀ {n : Nat}, x ∈ lvN sp lg n ↔ 0 <= x /\ x < n /\ lvB sp lg x = true
 | 0 => ⟨(fun h => by cases h), (fun h => absurd h.2.1 (by omega))⟩
 | n + 1 => by
   rw [lvN, List.mem_append, mem_lvN]
   constructor
   ·rintro (h | h)
    ·exact ⟨h.1, by omega, h.2.2⟩
    ·by_cases c : lvB sp lg n = true
     ·rw [if_pos c, List.mem_singleton] at h
      subst h; exact ⟨by omega, by omega, c⟩
     ·rw [if_neg c] at h; cases h
   ·rintro ⟨h1, h2, h3⟩
    by_cases q : x = n
    ·subst q; rw [if_pos h3]; exact .inr (by simp)
    ·exact .inl ⟨h1, by omega, h3⟩
theorem pw_lvN {sp lg : List (List L)} : ∀ n : Nat, (lvN sp lg n).Pairwise (· < ·)
 | 0 => List.Pairwise.nil
 | n + 1 => by
   rw [lvN, List.pairwise_append]
   refine ⟨pw_lvN n, ?_, fun a ha b hb => ?_⟩
   ·by_cases c : lvB sp lg n = true
    ·rw [if_pos c]; simp
    ·rw [if_neg c]; simp
   ·have m := mem_lvN.1 ha
    by_cases c : lvB sp lg n = true
    ·rw [if_pos c, List.mem_singleton] at hb; omega
    ·rw [if_neg c] at hb; cases hb
theorem pw_sort {l : List Int} (h : l.Nodup) : (l.mergeSort fun x y => decide (x <= y)).Pairwise (· < ·) := by
 have p := List.pairwise_mergeSort (le := fun x y : Int => decide (x <= y)) (fun a b c h1 h2 => by simp only [decide_eq_true_eq] at *; omega) (fun a b => by simp only [Bool.or_eq_true, decide_eq_true_eq]; omega) l
 have n : (l.mergeSort fun x y => decide (x <= y)).Nodup := (List.mergeSort_perm l _).nodup_iff.2 h
 refine List.Pairwise.imp₂ (R := fun a b => decide (a <= b) = true) (S := (· ≠ ·)) (T := (· < ·)) (fun a b h1 h2 => ?_) p n
 simp only [decide_eq_true_eq] at h1
 omega
theorem live_eq {sp lg : List (List L)} : iaL sp lg = laL sp lg := by
 unfold iaL laL
 by_cases hl : layOk sp lg = true
 ·rw [if_pos hl, if_pos hl]
  have F := lyF hl
  unfold srtL
  rw [intsOf_rwL, laN_eq]
  refine congrArg rwL (asc_unique (pw_sort (iaA_nd F)) (pw_lvN 512) (fun x => ?_))
  rw [(List.mergeSort_perm _ _).mem_iff, mem_iaA, mem_lvN]
  constructor
  ·intro h
   have v := lv_of F hl h
   refine ⟨?_, ?_, v⟩
   ·rcases h with ⟨i, k, i1, k1, _, e⟩ | ⟨j, j1, e⟩
    ·have ae := aa_eq (s := (k : Int)) (F.s i i1) (by omega) (by omega)
     have t := sp_t (F.s i i1); omega
    ·have t := lg_t (F.l j j1); omega
   ·rcases h with ⟨i, k, i1, k1, _, e⟩ | ⟨j, j1, e⟩
    ·have ae := aa_eq (s := (k : Int)) (F.s i i1) (by omega) (by omega)
     have t := sp_t (F.s i i1); omega
    ·have t := lg_t (F.l j j1); have b := pf_b t.1; omega
  ·rintro ⟨_, _, h⟩
   exact lv_to F hl h
 ·rw [if_neg hl, if_neg hl]
end Go.V