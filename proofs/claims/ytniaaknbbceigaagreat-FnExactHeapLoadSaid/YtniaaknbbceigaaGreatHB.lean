/-
  Plain facts about rows, pages, slots and heaps.
-/
import Derived.Test.YtniaaknbbceigaaGreatW2
import Derived.Test.YtniaaknbbceigaaGreatHA
set_option linter.all false
namespace Go.V
def t7 (sp : List (List L)) (i : Int) : Nat -> List Int
 | 0 => []
 | n + 1 => t7 sp i n ++ (if hsB (ab sp i 2) n then [aaI (ab sp i 0) (ab sp i 1) (ab sp i 2) n] else [])
def sP (sp : List (List L)) : Nat -> List Int
 | 0 => []
 | n + 1 => sP sp n ++ t7 sp n (slN (ab sp n 1)).toNat
def vz (lg : List (List L)) : Nat -> List Int
 | 0 => []
 | n + 1 => vz lg n ++ [ab lg n 0 * 16]
def FM (sp lg : List (List L)) : List Int := sP sp sp.length ++ vz lg lg.length
def iaL (sp lg : List (List L)) : List (List L) := if layOk sp lg then srtL (dX (FM sp lg)) else []
theorem Gq {a b : Int} (h : -9223372036854775808 <= a * b /\ a * b <= 9223372036854775807) : bu .mul .i64 a b = a * b := IntWalk.i64_in _ h
theorem uY {l : List (List L)} : (srtL l).length = l.length := by unfold srtL; rw [bC, List.length_mergeSort]; unfold jE; rw [List.length_map]
def Fp (l : List Int) : Prop := ∀ x ∈ l, -1 <= x /\ x <= 1000
theorem wY {a b : List Int} (h : Fp a) (g : Fp b) : Fp (a ++ b) := fun x hx => by
 rcases List.mem_append.1 hx with q | q
 ·exact h x q
 ·exact g x q
theorem Dz {x : Int} (h : -1 <= x /\ x <= 1000) : Fp [x] := fun y hy => by simp at hy; rw [hy]; exact h
theorem J1 {p k b s : Int} : -1 <= aaI p k b s /\ aaI p k b s <= 1000 := by
 unfold aaI;by_cases h : Fl p k b s = true
 ·rw [if_pos h];unfold Fl at h;simp only [Bool.and_eq_true] at h;have t := fP h.1;have c := eG t.2.2.1;have s1 := bc.1 h.2;have m0 : 0 <= s * clsSz k := Int.mul_nonneg (by omega) (by omega);have m1 : s * clsSz k <= slN k * clsSz k := Int.mul_le_mul_of_nonneg_right (by omega) (by omega);omega
 ·rw [if_neg h]; omega
theorem sO {sp : List (List L)} {i k : Int} (h : 0 <= k) : t7 sp i (k + 1).toNat = t7 sp i k.toNat ++ (if hsB (ab sp i 2) k then [aaI (ab sp i 0) (ab sp i 1) (ab sp i 2) k] else []) := by
 rw [show (k + 1).toNat = k.toNat + 1 from by omega, t7, Int.toNat_of_nonneg h]
theorem Af {sp : List (List L)} {i : Int} (h : 0 <= i) : sP sp (i + 1).toNat = sP sp i.toNat ++ t7 sp i (slN (ab sp i 1)).toNat := by
 rw [show (i + 1).toNat = i.toNat + 1 from by omega, sP, Int.toNat_of_nonneg h]
theorem vV {lg : List (List L)} {i : Int} (h : 0 <= i) : vz lg (i + 1).toNat = vz lg i.toNat ++ [ab lg i 0 * 16] := by
 rw [show (i + 1).toNat = i.toNat + 1 from by omega, vz, Int.toNat_of_nonneg h]
structure GZ (sp : List (List L)) (i : Int) (o : List (List L)) : Prop where
 e : o = dX (sP sp i.toNat)
 b : Fp (sP sp i.toNat)
 l : (sP sp i.toNat).length <= 16 * i.toNat
structure Cc (sp : List (List L)) (i k : Int) (o : List (List L)) : Prop where
 e : o = dX (sP sp i.toNat ++ t7 sp i k.toNat)
 b : Fp (sP sp i.toNat ++ t7 sp i k.toNat)
 l : (sP sp i.toNat).length <= 16 * i.toNat
 k : (t7 sp i k.toNat).length <= k.toNat
structure Dt (sp lg : List (List L)) (j : Int) (o : List (List L)) : Prop where
 e : o = dX (sP sp sp.length ++ vz lg j.toNat)
 b : Fp (sP sp sp.length ++ vz lg j.toNat)
 l : (sP sp sp.length ++ vz lg j.toNat).length <= 16 * sp.length + j.toNat
theorem Kk {sp : List (List L)} : GZ sp 0 [] := ⟨rfl, (fun x hx => by cases hx), Nat.zero_le _⟩
theorem Km {sp o : List (List L)} {i : Int} (h : GZ sp i o) : Cc sp i 0 o :=
 ⟨by rw [h.e]; simp [t7], by simpa [t7] using h.b, h.l, Nat.zero_le _⟩
theorem FP {sp o : List (List L)} {i k : Int} (h : Cc sp i k o) : o.length <= 16 * i.toNat + k.toNat := by
 have l := h.l; have m := h.k;rw [h.e, bC, List.length_append]; omega
theorem FQ {sp o : List (List L)} {i k : Int} (h : Cc sp i k o) (k0 : 0 <= k) (hh : hsB (ab sp i 2) k = true) : Cc sp i (k + 1) (o ++ [[.v (.int .i64 (aaI (ab sp i 0) (ab sp i 1) (ab sp i 2) k))]]) := by
 have m := h.k; have e := h.e;refine ⟨?_, ?_, h.l, ?_⟩
 ·rw [sO k0, if_pos hh, <- List.append_assoc, dq, <- e]; rfl
 ·rw [sO k0, if_pos hh, <- List.append_assoc]; exact wY h.b (Dz J1)
 ·rw [sO k0, if_pos hh, List.length_append, List.length_cons, List.length_nil]; omega
theorem H4 {sp o : List (List L)} {i k : Int} (h : Cc sp i k o) (k0 : 0 <= k) (hh : hsB (ab sp i 2) k = false) : Cc sp i (k + 1) o := by
 have m := h.k; have e := h.e;have u : t7 sp i (k + 1).toNat = t7 sp i k.toNat := by rw [sO k0, hh]; simp
 refine ⟨?_, ?_, h.l, ?_⟩
 ·rw [u]; exact e
 ·rw [u]; exact h.b
 ·rw [u]; omega
theorem K7 {sp lg : List (List L)} {i : Int} (hl : layOk sp lg = true) (h0 : 0 <= i) (h1 : i < sp.length) : 0 <= slN (ab sp i 1) /\ slN (ab sp i 1) <= 16 := by
 have t := fP ((As hl).1 i h0 h1);have c := eG t.2.2.1;omega
theorem FO {sp o : List (List L)} {i k : Int} (h : Cc sp i k o) (i0 : 0 <= i) (k1 : k <= slN (ab sp i 1)) (k2 : slN (ab sp i 1) <= k) (hs : 0 <= slN (ab sp i 1) /\ slN (ab sp i 1) <= 16) : GZ sp (i + 1) o := by
 have ek : k = slN (ab sp i 1) := by omega
 have e := h.e; have b := h.b; have l := h.l; have m := h.k;rw [ek, <- Af i0] at e b;rw [ek] at m;refine ⟨e, b, ?_⟩;rw [Af i0, List.length_append]; omega
theorem Kn {sp lg o : List (List L)} {i : Int} (h : GZ sp i o) (h1 : i <= sp.length) (h2 : (sp.length : Int) <= i) : Dt sp lg 0 o := by
 have ei : i.toNat = sp.length := by omega
 have e := h.e; have b := h.b; have l := h.l;rw [ei] at e b l;exact ⟨by rw [e]; simp [vz], by simpa [vz] using b, by simpa [vz] using l⟩
theorem Ai {sp lg o : List (List L)} {j : Int} (h : Dt sp lg j o) : o.length <= 16 * sp.length + j.toNat := by
 have l := h.l;rw [h.e, bC]; exact l
theorem Kt {sp lg : List (List L)} {j : Int} (hl : layOk sp lg = true) (h0 : 0 <= j) (h1 : j < lg.length) : 0 <= ab lg j 0 /\ ab lg j 0 <= 32 := by
 have t := eV ((As hl).2.1 j h0 h1);have b := eW t.1;omega
theorem H6 {sp lg o : List (List L)} {j : Int} (h : Dt sp lg j o) (j0 : 0 <= j) (hb : 0 <= ab lg j 0 /\ ab lg j 0 <= 32) : Dt sp lg (j + 1) (o ++ [[.v (.int .i64 (ab lg j 0 * 16))]]) := by
 have e := h.e; have l := h.l;refine ⟨?_, ?_, ?_⟩
 ·rw [vV j0, <- List.append_assoc, dq, <- e]; rfl
 ·rw [vV j0, <- List.append_assoc]; exact wY h.b (Dz (by omega))
 ·rw [vV j0, <- List.append_assoc, List.length_append, List.length_cons, List.length_nil]; omega
theorem H5 {sp lg o : List (List L)} {j : Int} (h : Dt sp lg j o) (h1 : sp.length <= 1073741824) (h2 : j <= 1073741824) : Rw [tI] o /\ o.length <= 70368744177664 := by
 have l := Ai h;refine ⟨?_, by omega⟩;have e := h.e;have l2 := h.l;rw [e];exact lD (fun x hx => by have := h.b x hx; omega) (by omega)
theorem FR {sp lg o : List (List L)} {j : Int} (h : Dt sp lg j o) (j1 : j <= lg.length) (j2 : (lg.length : Int) <= j) (hl : layOk sp lg = true) : srtL o = iaL sp lg := by
 have ej : j.toNat = lg.length := by omega
 have e := h.e;rw [ej] at e;unfold iaL FM; rw [if_pos hl, <- e]
theorem Kl {sp lg : List (List L)} (hl : layOk sp lg = false) : ([] : List (List L)) = iaL sp lg := by unfold iaL; rw [hl]; rfl
end Go.V
namespace Go.V
theorem om : ∀ {a b : List Int}, a.Pairwise (· < ·) -> b.Pairwise (· < ·) -> (∀ x, x ∈ a ↔ x ∈ b) -> a = b
 | [], [], _, _, _ => rfl
 | [], y :: b, _, _, h => by have := (h y).2 (by simp); simp at this
 | x :: a, [], _, _, h => by have := (h x).1 (by simp); simp at this
 | x :: a, y :: b, ha, hb, h => by
   rw [List.pairwise_cons] at ha hb;have e : x = y := by
    rcases List.mem_cons.1 ((h x).1 (by simp)) with q | q
    ·exact q
    ·rcases List.mem_cons.1 ((h y).2 (by simp)) with r | r
     ·exact r.symm
     ·have := hb.1 x q; have := ha.1 y r; omega
   subst e;rw [om ha.2 hb.2 (fun z => ?_)]
   constructor
   ·intro m;rcases List.mem_cons.1 ((h z).1 (by simp [m])) with q | q
    ·have := ha.1 z m; omega
    ·exact q
   ·intro m;rcases List.mem_cons.1 ((h z).2 (by simp [m])) with q | q
    ·have := hb.1 z m; omega
    ·exact q
theorem iK {sp : List (List L)} {x : Int} : ∀ {n : Nat}, x ∈ fD sp n ↔ ∃ i : Nat, i < n /\ ab sp i 0 = x
 | 0 => by simp [fD]
 | n + 1 => by
   rw [fD, List.mem_append, iK, List.mem_singleton]
   constructor
   ·rintro (⟨i, h, e⟩ | rfl)
    ·exact ⟨i, by omega, e⟩
    ·exact ⟨n, by omega, rfl⟩
   ·rintro ⟨i, h, e⟩;by_cases c : i = n
    ·subst c; exact .inr e.symm
    ·exact .inl ⟨i, by omega, e⟩
theorem sZ {p x : Int} : ∀ {n : Nat}, x ∈ iN p n ↔ p <= x /\ x < p + n
 | 0 => ⟨(fun h => by cases h), (fun h => absurd h (by omega))⟩
 | n + 1 => by
   rw [iN, List.mem_append, sZ, List.mem_singleton]; omega
theorem km {lg : List (List L)} {x : Int} : ∀ {n : Nat}, x ∈ fC lg n ↔ ∃ j : Nat, j < n /\ ab lg j 0 <= x /\ x < ab lg j 0 + (ab lg j 1).toNat
 | 0 => by simp [fC]
 | n + 1 => by
   rw [fC, List.mem_append, km, sZ]
   constructor
   ·rintro (⟨i, h, e⟩ | h)
    ·exact ⟨i, by omega, e⟩
    ·exact ⟨n, by omega, h⟩
   ·rintro ⟨i, h, e⟩;by_cases c : i = n
    ·subst c; exact .inr e
    ·exact .inl ⟨i, by omega, e⟩
theorem BI {sp : List (List L)} : ∀ {n : Nat}, (fD sp n).Nodup -> ∀ i i' : Nat, i < i' -> i' < n -> ab sp i 0 ≠ ab sp i' 0
 | 0, _, i, i', _, h => by omega
 | n + 1, hn, i, i', h1, h2 => by
   rw [fD, List.nodup_append] at hn;by_cases c : i' = n
   ·subst c;exact hn.2.2 _ (iK.2 ⟨i, h1, rfl⟩) _ (by simp)
   ·exact BI hn.1 i i' h1 (by omega)
theorem Az {lg : List (List L)} : ∀ {n : Nat}, (fC lg n).Nodup -> ∀ (j j' : Nat) (x : Int), j < j' -> j' < n -> ab lg j 0 <= x -> x < ab lg j 0 + (ab lg j 1).toNat -> ab lg j' 0 <= x -> x < ab lg j' 0 + (ab lg j' 1).toNat -> False
 | 0, _, j, j', x, _, h, _, _, _, _ => by omega
 | n + 1, hn, j, j', x, h1, h2, a, b, c, d => by
   rw [fC, List.nodup_append] at hn;by_cases e : j' = n
   ·subst e;exact hn.2.2 x (km.2 ⟨j, h1, a, b⟩) x (sZ.2 ⟨c, d⟩) rfl
   ·exact Az hn.1 j j' x h1 (by omega) a b c d
structure G4 (sp lg : List (List L)) : Prop where
 s : ∀ i : Nat, i < sp.length -> spOk (ab sp i 0) (ab sp i 1) (ab sp i 2) = true
 l : ∀ j : Nat, j < lg.length -> lgOk (ab lg j 0) (ab lg j 1) (ab lg j 2) = true
 ss : ∀ i i' : Nat, i < sp.length -> i' < sp.length -> ab sp i 0 = ab sp i' 0 -> i = i'
 sl : ∀ i j : Nat, i < sp.length -> j < lg.length -> ab lg j 0 <= ab sp i 0 -> ab sp i 0 < ab lg j 0 + ab lg j 1 -> False
 ll : ∀ (j j' : Nat) (x : Int), j < lg.length -> j' < lg.length -> ab lg j 0 <= x -> x < ab lg j 0 + ab lg j 1 -> ab lg j' 0 <= x -> x < ab lg j' 0 + ab lg j' 1 -> j = j'
theorem Hc {sp lg : List (List L)} (h : layOk sp lg = true) : G4 sp lg := by
 obtain ⟨h1, h2, h3⟩ := As h;unfold rc at h3;rw [List.nodup_append] at h3;have n0 : ∀ j : Nat, j < lg.length -> ((ab lg j 1).toNat : Int) = ab lg j 1 := fun j hj => by
  have t := eV (h2 j (by omega) (by omega)); have b := eW t.1; omega
 refine ⟨fun i hi => h1 i (by omega) (by omega), fun j hj => h2 j (by omega) (by omega), fun i i' a b e => ?_, fun i j a b c d => ?_, fun j j' x a b c d e f => ?_⟩
 ·rcases Nat.lt_trichotomy i i' with q | q | q
  ·exact absurd e (BI h3.1 i i' q b)
  ·exact q
  ·exact absurd e.symm (BI h3.1 i' i q a)
 ·exact h3.2.2 _ (iK.2 ⟨i, a, rfl⟩) _ (km.2 ⟨j, b, c, by rw [n0 j b]; exact d⟩) rfl
 ·rcases Nat.lt_trichotomy j j' with q | q | q
  ·exact (Az h3.2.1 j j' x q b c (by rw [n0 j a]; exact d) e (by rw [n0 j' b]; exact f)).elim
  ·exact q
  ·exact (Az h3.2.1 j' j x q a e (by rw [n0 j' b]; exact f) c (by rw [n0 j a]; exact d)).elim
theorem gQ {p k b s : Int} (h : spOk p k b = true) (h0 : 0 <= s) (h1 : s < slN k) : aaI p k b s = p * 16 + s * clsSz k /\ 0 <= s * clsSz k /\ s * clsSz k + clsSz k <= 16 /\ 1 <= clsSz k := by
 have t := fP h;have c := eG t.2.2.1;have a : Fl p k b s = true := by unfold Fl; rw [h, bc.2 ⟨h0, by omega⟩]; rfl
 have m0 : 0 <= s * clsSz k := Int.mul_nonneg h0 (by omega);have m1 : (s + 1) * clsSz k <= slN k * clsSz k := Int.mul_le_mul_of_nonneg_right (by omega) (by omega);rw [Int.add_mul] at m1;unfold aaI; rw [if_pos a];exact ⟨rfl, m0, by omega, by omega⟩
theorem nU {sp : List (List L)} {i x : Int} : ∀ {n : Nat}, x ∈ t7 sp i n ↔ ∃ k : Nat, k < n /\ hsB (ab sp i 2) k = true /\ x = aaI (ab sp i 0) (ab sp i 1) (ab sp i 2) k
 | 0 => by simp [t7]
 | n + 1 => by
   rw [t7, List.mem_append, nU]
   constructor
   ·rintro (⟨k, h, e⟩ | h)
    ·exact ⟨k, by omega, e⟩
    ·by_cases c : hsB (ab sp i 2) n = true
     ·rw [if_pos c, List.mem_singleton] at h;exact ⟨n, by omega, c, h⟩
     ·rw [if_neg c] at h; simp at h
   ·rintro ⟨k, h, c, e⟩;by_cases q : k = n
    ·subst q; rw [if_pos c]; exact .inr (by simp [e])
    ·exact .inl ⟨k, by omega, c, e⟩
theorem nV {sp : List (List L)} {x : Int} : ∀ {n : Nat}, x ∈ sP sp n ↔ ∃ i k : Nat, i < n /\ k < (slN (ab sp i 1)).toNat /\ hsB (ab sp i 2) k = true /\ x = aaI (ab sp i 0) (ab sp i 1) (ab sp i 2) k
 | 0 => by simp [sP]
 | n + 1 => by
   rw [sP, List.mem_append, nV, nU]
   constructor
   ·rintro (⟨i, k, h, e⟩ | ⟨k, h⟩)
    ·exact ⟨i, k, by omega, e⟩
    ·exact ⟨n, k, by omega, h⟩
   ·rintro ⟨i, k, h, e⟩;by_cases q : i = n
    ·subst q; exact .inr ⟨k, e⟩
    ·exact .inl ⟨i, k, by omega, e⟩
theorem nT {lg : List (List L)} {x : Int} : ∀ {n : Nat}, x ∈ vz lg n ↔ ∃ j : Nat, j < n /\ x = ab lg j 0 * 16
 | 0 => by simp [vz]
 | n + 1 => by
   rw [vz, List.mem_append, nT, List.mem_singleton]
   constructor
   ·rintro (⟨i, h, e⟩ | h)
    ·exact ⟨i, by omega, e⟩
    ·exact ⟨n, by omega, h⟩
   ·rintro ⟨i, h, e⟩;by_cases q : i = n
    ·subst q; exact .inr e
    ·exact .inl ⟨i, by omega, e⟩
theorem vW {sp : List (List L)} {i : Nat} (h : spOk (ab sp i 0) (ab sp i 1) (ab sp i 2) = true) : ∀ {n : Nat}, n <= (slN (ab sp i 1)).toNat -> (t7 sp i n).Nodup
 | 0, _ => List.nodup_nil
 | n + 1, hn => by
   rw [t7];by_cases c : hsB (ab sp i 2) n = true
   ·rw [if_pos c];refine fc (vW h (by omega)) (fun m => ?_);obtain ⟨k, k1, _, k3⟩ := nU.1 m;have a := gQ (s := (n : Int)) h (by omega) (by omega);have b := gQ (s := (k : Int)) h (by omega) (by omega);have q : ((k : Int) + 1) * clsSz (ab sp i 1) <= (n : Int) * clsSz (ab sp i 1) := Int.mul_le_mul_of_nonneg_right (by omega) (by omega);rw [Int.add_mul] at q;omega
   ·rw [if_neg c, List.append_nil]; exact vW h (by omega)
theorem Ae {sp lg : List (List L)} (F : G4 sp lg) : ∀ {n : Nat}, n <= sp.length -> (sP sp n).Nodup
 | 0, _ => List.nodup_nil
 | n + 1, hn => by
   rw [sP, List.nodup_append];refine ⟨Ae F (by omega), vW (F.s n (by omega)) (Nat.le_refl _), fun x hx y hy e => ?_⟩;subst e;obtain ⟨i, k, i1, k1, _, e1⟩ := nV.1 hx;obtain ⟨k', k2, _, e2⟩ := nU.1 hy;have a := gQ (s := (k : Int)) (F.s i (by omega)) (by omega) (by omega);have b := gQ (s := (k' : Int)) (F.s n (by omega)) (by omega) (by omega);have := F.ss i n (by omega) (by omega) (by omega);omega
theorem Ad {sp lg : List (List L)} (F : G4 sp lg) : ∀ {n : Nat}, n <= lg.length -> (vz lg n).Nodup
 | 0, _ => List.nodup_nil
 | n + 1, hn => by
   rw [vz];refine fc (Ad F (by omega)) (fun m => ?_);obtain ⟨j, j1, e⟩ := nT.1 m;have t := eV (F.l j (by omega)); have b := eW t.1;have t' := eV (F.l n (by omega)); have b' := eW t'.1;have := F.ll j n (ab lg j 0) (by omega) (by omega) (by omega) (by omega) (by omega) (by omega);omega
theorem FN {sp lg : List (List L)} (F : G4 sp lg) : (FM sp lg).Nodup := by
 unfold FM;rw [List.nodup_append];refine ⟨Ae F (Nat.le_refl _), Ad F (Nat.le_refl _), fun x hx y hy e => ?_⟩;subst e;obtain ⟨i, k, i1, k1, _, e1⟩ := nV.1 hx;obtain ⟨j, j1, e2⟩ := nT.1 hy;have a := gQ (s := (k : Int)) (F.s i (by omega)) (by omega) (by omega);have t := eV (F.l j (by omega)); have b := eW t.1;exact F.sl i j i1 j1 (by omega) (by omega)
end Go.V
namespace Go.V
theorem eh {p : Int -> Bool} {n : Nat} (h : 0 <= bW p n) : bW p n < n /\ p (bW p n) = true := by
 refine ⟨by rcases ka (p := p) (n := n) with q | q <;> omega, ?_⟩;unfold bW at h ⊢;split at h
 ·rename_i j e;have q := List.find?_some e;exact q
 ·omega
theorem ke {p : Int -> Bool} {n i : Nat} (h : i < n) (hp : p i = true) : 0 <= bW p n := by
 unfold bW;split
 ·omega
 ·rename_i e;rw [List.find?_eq_none] at e;exact absurd hp (e i (List.mem_range.2 h))
theorem ye {sp : List (List L)} {a i : Int} : rV sp a i = true ↔ vA (ab sp i 0) (ab sp i 1) (ab sp i 2) a = true := by
 unfold rV;rw [decide_eq_true_eq]
 constructor
 ·intro h;cases c : vA (ab sp i 0) (ab sp i 1) (ab sp i 2) a with
  | true => rfl
  | false => rw [(rW c).1] at h; omega
 ·intro h;obtain ⟨h1, h2, h3⟩ := tt.1 h;have cb := eG (fP h1).2.2.1;rw [(p7 h).1];exact Int.ediv_nonneg (by omega) (by omega)
def JW (sp lg : List (List L)) (x : Int) : Prop := (∃ i k : Nat, i < sp.length /\ k < (slN (ab sp i 1)).toNat /\ hsB (ab sp i 2) k = true /\ x = aaI (ab sp i 0) (ab sp i 1) (ab sp i 2) k) \/ ∃ j : Nat, j < lg.length /\ x = ab lg j 0 * 16
theorem xJ {sp lg : List (List L)} {x : Int} : x ∈ FM sp lg ↔ JW sp lg x := by
 unfold FM JW;rw [List.mem_append, nV, nT]
theorem Hu {sp lg : List (List L)} {a : Int} (h : 0 <= hK sp a) : dnK sp lg a = (if hsB (ab sp (hK sp a) 2) (De sp a (hK sp a)) then 1 else 2) /\ dnO sp lg a = Hh sp a (hK sp a) := by
 unfold dnK dnO; rw [if_pos h, if_pos h]; exact ⟨rfl, rfl⟩
theorem Ht {sp lg : List (List L)} {a : Int} (h : ¬ 0 <= hK sp a) (g : 0 <= l5 lg a) : dnK sp lg a = 3 /\ dnO sp lg a = JV lg a (l5 lg a) := by
 unfold dnK dnO; rw [if_neg h, if_neg h, if_pos g, if_pos g]; exact ⟨rfl, rfl⟩
theorem J7 {sp lg : List (List L)} {a : Int} (h : ¬ 0 <= hK sp a) (g : ¬ 0 <= l5 lg a) : dnK sp lg a = 0 /\ dnO sp lg a = 0 := by
 unfold dnK dnO; rw [if_neg h, if_neg h, if_neg g, if_neg g]; exact ⟨rfl, rfl⟩
theorem xH {sp lg : List (List L)} {a : Int} (hl : layOk sp lg = true) : nD sp lg a = true ↔ dnO sp lg a = 0 /\ (dnK sp lg a = 1 \/ dnK sp lg a = 3) := by
 unfold nD dzO dzK;rw [if_pos hl, if_pos hl];simp only [Bool.and_eq_true, Bool.or_eq_true, decide_eq_true_eq]
theorem Ev {sp lg : List (List L)} {x : Int} (F : G4 sp lg) (hl : layOk sp lg = true) (h : nD sp lg x = true) : JW sp lg x := by
 obtain ⟨h1, h2⟩ := (xH hl).1 h;by_cases c : 0 <= hK sp x
 ·obtain ⟨d1, d2⟩ := Hu (lg := lg) c;obtain ⟨b, q⟩ := eh c;change hK sp x < sp.length at b;change rV sp x (hK sp x) = true at q;rw [d1] at h2; rw [d2] at h1;generalize hF : hK sp x = f at *;obtain ⟨f, rfl⟩ := Int.eq_ofNat_of_zero_le c;have bf : f < sp.length := by omega
  have q' := ye.1 q;obtain ⟨a1, a2, a3⟩ := tt.1 q';obtain ⟨e1, e2⟩ := p7 q';have cb := eG (fP a1).2.2.1;have hh : hsB (ab sp f 2) (De sp x f) = true := by
   cases c : hsB (ab sp f 2) (De sp x f) with
   | true => rfl
   | false => rw [c] at h2; simp at h2
  unfold Hh at h1;rw [e2] at h1;unfold De at hh;rw [e1] at hh;have dv : clsSz (ab sp f 1) * ((x - ab sp f 0 * 16) / clsSz (ab sp f 1)) = x - ab sp f 0 * 16 := Int.mul_ediv_cancel_of_emod_eq_zero h1;have nn : 0 <= (x - ab sp f 0 * 16) / clsSz (ab sp f 1) := Int.ediv_nonneg (by omega) (by omega);generalize hs : (x - ab sp f 0 * 16) / clsSz (ab sp f 1) = s at *;have lt : s < slN (ab sp f 1) := by
   by_cases w : s < slN (ab sp f 1)
   ·exact w
   ·have m : slN (ab sp f 1) * clsSz (ab sp f 1) <= s * clsSz (ab sp f 1) := Int.mul_le_mul_of_nonneg_right (by omega) (by omega);rw [Int.mul_comm s] at m;omega
  obtain ⟨s, rfl⟩ := Int.eq_ofNat_of_zero_le nn;have ae := gQ a1 nn lt;refine .inl ⟨f, s, bf, by omega, hh, ?_⟩;have ae1 := ae.1;rw [Int.mul_comm (s : Int)] at ae1;show x = aaI (ab sp f 0) (ab sp f 1) (ab sp f 2) s;rw [ae1];omega
 ·by_cases g : 0 <= l5 lg x
  ·obtain ⟨d1, d2⟩ := Ht c g;obtain ⟨b, q⟩ := eh g;change l5 lg x < lg.length at b;change sU lg x (l5 lg x) = true at q;rw [d2] at h1;generalize hF : l5 lg x = f at *;obtain ⟨f, rfl⟩ := Int.eq_ofNat_of_zero_le g;refine .inr ⟨f, by omega, ?_⟩;unfold JV loI at h1;unfold sU at q;rw [if_pos q] at h1;show x = ab lg f 0 * 16;omega
  ·obtain ⟨d1, d2⟩ := J7 c g;rw [d1] at h2; omega
theorem Ec {sp lg : List (List L)} {x : Int} (h : 0 <= hK sp x) : ∃ f : Nat, hK sp x = f /\ f < sp.length /\ vA (ab sp f 0) (ab sp f 1) (ab sp f 2) x = true := by
 obtain ⟨b, q⟩ := eh h;obtain ⟨f, e⟩ := Int.eq_ofNat_of_zero_le h;refine ⟨f, e, ?_, ?_⟩
 ·have : hK sp x < sp.length := b;rw [e] at this; exact Int.ofNat_lt.1 this
 ·have : rV sp x (hK sp x) = true := q;rw [e] at this; exact ye.1 this
theorem Ir {sp lg : List (List L)} {x : Int} (F : G4 sp lg) (hl : layOk sp lg = true) (h : JW sp lg x) : nD sp lg x = true := by
 rw [xH hl];rcases h with ⟨i, k, i1, k1, hh, e⟩ | ⟨j, j1, e⟩
 ·have a1 := F.s i i1;have cb := eG (fP a1).2.2.1;have ae := gQ (s := (k : Int)) a1 (by omega) (by omega);have sb : vA (ab sp i 0) (ab sp i 1) (ab sp i 2) x = true := tt.2 ⟨a1, by omega, by omega⟩;have c : 0 <= hK sp x := ke i1 (ye.2 sb);obtain ⟨f, e1, f1, f2⟩ := Ec (lg := lg) c;obtain ⟨_, g2, g3⟩ := tt.1 f2;have : f = i := F.ss f i f1 i1 (by omega);subst this;obtain ⟨d1, d2⟩ := Hu (lg := lg) c;rw [d1, d2, e1];obtain ⟨y1, y2⟩ := p7 sb;have xe : x - ab sp f 0 * 16 = k * clsSz (ab sp f 1) := by omega
  unfold De Hh;rw [y1, y2, xe, Int.mul_ediv_cancel _ (by omega), if_pos hh];exact ⟨Int.mul_emod_left _ _, .inl rfl⟩
 ·have t := eV (F.l j j1); have b := eW t.1; have r := bc.1 t.1;have c : ¬ 0 <= hK sp x := fun c => by
   obtain ⟨f, e1, f1, f2⟩ := Ec (lg := lg) c;obtain ⟨_, g2, g3⟩ := tt.1 f2;exact F.sl f j f1 j1 (by omega) (by omega)
  have lb : lhB (ab lg j 0) (ab lg j 1) (ab lg j 2) x = true := Gd.2 ⟨F.l j j1, by omega, by omega⟩;have g : 0 <= l5 lg x := ke j1 (show sU lg x j = true from lb);obtain ⟨d1, d2⟩ := Ht c g;obtain ⟨b1, q⟩ := eh g;change l5 lg x < lg.length at b1;change sU lg x (l5 lg x) = true at q;rw [d1, d2];generalize hF : l5 lg x = f at *;obtain ⟨f, rfl⟩ := Int.eq_ofNat_of_zero_le g;have f1 : f < lg.length := by omega
  have q' : lhB (ab lg f 0) (ab lg f 1) (ab lg f 2) x = true := q;obtain ⟨_, u1, u2⟩ := Gd.1 q';have t2 := eV (F.l f f1); have b2 := eW t2.1;have : f = j := F.ll f j (ab lg j 0) f1 j1 (by omega) (by omega) (by omega) (by omega);subst this;refine ⟨?_, .inr rfl⟩;show loI (ab lg f 0) (ab lg f 1) (ab lg f 2) x = 0;unfold loI; rw [if_pos lb]; omega
def Eu (sp lg : List (List L)) : Nat -> List Int
 | 0 => []
 | n + 1 => Eu sp lg n ++ (if nD sp lg n then [(n : Int)] else [])
theorem pG {sp lg : List (List L)} : ∀ n : Nat, Ca sp lg n = dX (Eu sp lg n)
 | 0 => rfl
 | n + 1 => by
   rw [Ca, Eu, dq, pG n];by_cases c : nD sp lg n = true
   ·rw [if_pos c, if_pos c]; rfl
   ·rw [if_neg c, if_neg c]; rfl
theorem kn {sp lg : List (List L)} {x : Int} : ∀ {n : Nat}, x ∈ Eu sp lg n ↔ 0 <= x /\ x < n /\ nD sp lg x = true
 | 0 => ⟨(fun h => by cases h), (fun h => absurd h.2.1 (by omega))⟩
 | n + 1 => by
   rw [Eu, List.mem_append, kn]
   constructor
   ·rintro (h | h)
    ·exact ⟨h.1, by omega, h.2.2⟩
    ·by_cases c : nD sp lg n = true
     ·rw [if_pos c, List.mem_singleton] at h;subst h; exact ⟨by omega, by omega, c⟩
     ·rw [if_neg c] at h; cases h
   ·rintro ⟨h1, h2, h3⟩;by_cases q : x = n
    ·subst q; rw [if_pos h3]; exact .inr (by simp)
    ·exact .inl ⟨h1, by omega, h3⟩
theorem wu {sp lg : List (List L)} : ∀ n : Nat, (Eu sp lg n).Pairwise (· < ·)
 | 0 => List.Pairwise.nil
 | n + 1 => by
   rw [Eu, List.pairwise_append];refine ⟨wu n, ?_, fun a ha b hb => ?_⟩
   ·by_cases c : nD sp lg n = true
    ·rw [if_pos c]; simp
    ·rw [if_neg c]; simp
   ·have m := kn.1 ha;by_cases c : nD sp lg n = true
    ·rw [if_pos c, List.mem_singleton] at hb; omega
    ·rw [if_neg c] at hb; cases hb
theorem C7 {l : List Int} (h : l.Nodup) : (l.mergeSort fun x y => decide (x <= y)).Pairwise (· < ·) := by
 have p := List.pairwise_mergeSort (le := fun x y : Int => decide (x <= y)) (fun a b c h1 h2 => by simp only [decide_eq_true_eq] at *; omega) (fun a b => by simp only [Bool.or_eq_true, decide_eq_true_eq]; omega) l;have n : (l.mergeSort fun x y => decide (x <= y)).Nodup := (List.mergeSort_perm l _).nodup_iff.2 h;refine List.Pairwise.imp₂ (R := fun a b => decide (a <= b) = true) (S := (· ≠ ·)) (T := (· < ·)) (fun a b h1 h2 => ?_) p n;simp only [decide_eq_true_eq] at h1;omega
theorem CR {sp lg : List (List L)} : iaL sp lg = laL sp lg := by
 unfold iaL laL;by_cases hl : layOk sp lg = true
 ·rw [if_pos hl, if_pos hl];have F := Hc hl;unfold srtL;rw [vY, pG];refine congrArg dX (om (C7 (FN F)) (wu 512) (fun x => ?_));rw [(List.mergeSort_perm _ _).mem_iff, xJ, kn]
  constructor
  ·intro h;have v := Ir F hl h;refine ⟨?_, ?_, v⟩
   ·rcases h with ⟨i, k, i1, k1, _, e⟩ | ⟨j, j1, e⟩
    ·have ae := gQ (s := (k : Int)) (F.s i i1) (by omega) (by omega);have t := fP (F.s i i1); omega
    ·have t := eV (F.l j j1); omega
   ·rcases h with ⟨i, k, i1, k1, _, e⟩ | ⟨j, j1, e⟩
    ·have ae := gQ (s := (k : Int)) (F.s i i1) (by omega) (by omega);have t := fP (F.s i i1); omega
    ·have t := eV (F.l j j1); have b := eW t.1; omega
  ·rintro ⟨_, _, h⟩;exact Ev F hl h
 ·rw [if_neg hl, if_neg hl]
end Go.V
namespace Go.V
def nC (qs : List (List L)) (a j : Int) : Bool := eqB (ab qs j 0) a
def qtI (qs : List (List L)) (a : Int) : Int := bW (nC qs a) qs.length
def qtB (qs : List (List L)) (a : Int) : Bool := decide (0 <= qtI qs a)
theorem GG {qs : List (List L)} {a i : Int} (h : upto (bP (nC qs a)) i) (h0 : 0 <= i) (h1 : i < qs.length) (e : ab qs i 0 = a) : qtB qs a = true := by
 unfold qtB qtI; rw [cy h h0 h1 (lW e)]; exact decide_eq_true h0
theorem Jn {qs : List (List L)} {a i : Int} (h : upto (bP (nC qs a)) i) (h1 : (qs.length : Int) <= i) : qtB qs a = false := by
 unfold qtB qtI; rw [cO h h1]; rfl
end Go.V
namespace Go.V
structure Du (ls : List (List L)) : Prop where
 w : Rw [.sl [tI]] ls
 l : ls.length <= 1099511627776
 n : ∀ i : Int, (ay ls i 0).length <= 1099511627776
theorem Du.el {ls : List (List L)} (h : Du ls) {i : Int} (h0 : 0 <= i) (h1 : i < ls.length) : Rw [tI] (ay ls i 0) /\ (ay ls i 0).length <= 1099511627776 :=
 ⟨Rw.sub (fs := [.sl [tI]]) h.w (by omega) rfl, h.n i⟩
end Go.V
namespace Go.V
def yD (b : List (List L)) (i k : Int) : Bool := inR (ab (ay b i 0) k 0) 0 ((b.length : Int) - 1) && decide (0 <= ab (ay b i 0) k 1)
def yY (x : List (List L)) (i k : Int) : Bool := decide (0 <= ab (ay x i 0) k 0)
def Hg (b x : List (List L)) (i : Int) : Bool := bE (yD b i) (ay b i 0).length && bE (yY x i) (ay x i 0).length
def CW (b x : List (List L)) : Nat -> Int
 | 0 => 0
 | n + 1 => CW b x n + ((ay b n 0).length + (ay x n 0).length)
def mailOk (b x : List (List L)) : Bool := inR b.length 1 4 && (decide (x.length = b.length) && (bE (Hg b x) b.length && decide (CW b x b.length <= 30)))
structure tZ (b x : List (List L)) : Prop where
 bw : Rw [.sl [tI, tI]] b
 xw : Rw [.sl [tI]] x
 bl : b.length <= 1099511627776
 xl : x.length <= 1099511627776
 bn : ∀ i : Int, (ay b i 0).length <= 1099511627776
 xn : ∀ i : Int, (ay x i 0).length <= 1099511627776
theorem EC {b x : List (List L)} (h : tZ b x) : ∀ n : Nat, 0 <= CW b x n /\ CW b x n <= 2199023255552 * n
 | 0 => ⟨Int.le_refl _, Int.le_refl _⟩
 | n + 1 => by
   have q := EC h n;have p1 := h.bn n; have p2 := h.xn n;rw [CW]; omega
structure Ch (b x : List (List L)) (i t : Int) : Prop where
 ok : upto (Hg b x) i
 t : t = CW b x i.toNat
theorem IA {b x : List (List L)} : Ch b x 0 0 := ⟨aG, rfl⟩
theorem IB {b x : List (List L)} {i t : Int} (N : tZ b x) (h : Ch b x i t) (i0 : 0 <= i) (i1 : i <= 4) : 0 <= t /\ t <= 8796093022208 := by
 have q := EC N i.toNat; have e := h.t; omega
theorem EB {b x : List (List L)} {i t k j : Int} (h : Ch b x i t) (i0 : 0 <= i) (hp : upto (yD b i) k) (k1 : ((ay b i 0).length : Int) <= k) (ha : upto (yY x i) j) (j1 : ((ay x i 0).length : Int) <= j) : Ch b x (i + 1) (t + ((ay b i 0).length + (ay x i 0).length)) := by
 refine ⟨aw h.ok ?_, ?_⟩
 ·unfold Hg; rw [aM hp k1, aM ha j1]; rfl
 ·rw [show (i + 1).toNat = i.toNat + 1 from by omega, CW, <- h.t, Int.toNat_of_nonneg i0]
theorem AM {b x : List (List L)} (h : inR b.length 1 4 = false) : mailOk b x = false := by unfold mailOk; rw [h]; rfl
theorem AN {b x : List (List L)} (h : (x.length : Int) ≠ b.length) : mailOk b x = false := by
 unfold mailOk; rw [decide_eq_false (p := x.length = b.length) (by omega)]; simp
theorem EA {b x : List (List L)} {i : Int} (i0 : 0 <= i) (i1 : i < b.length) (h : Hg b x i = false) : mailOk b x = false := by
 unfold mailOk; rw [aZ i0 i1 h]; simp
theorem s7 {b x : List (List L)} {i k : Int} (i0 : 0 <= i) (i1 : i < b.length) (k0 : 0 <= k) (k1 : k < (ay b i 0).length) (h : yD b i k = false) : mailOk b x = false :=
 EA i0 i1 (by unfold Hg; rw [aZ k0 k1 h]; rfl)
theorem AO {b x : List (List L)} {i k : Int} (i0 : 0 <= i) (i1 : i < b.length) (k0 : 0 <= k) (k1 : k < (ay x i 0).length) (h : yY x i k = false) : mailOk b x = false :=
 EA i0 i1 (by unfold Hg; rw [aZ k0 k1 h, Bool.and_false])
theorem AL {b x : List (List L)} {i t : Int} (h : Ch b x i t) (h1 : inR b.length 1 4 = true) (h2 : (x.length : Int) = b.length) (i1 : i <= b.length) (i2 : (b.length : Int) <= i) : mailOk b x = decide (t <= 30) := by
 have e : i.toNat = b.length := by omega
 have q := h.t;rw [e] at q;unfold mailOk;rw [h1, decide_eq_true (p := x.length = b.length) (by omega), aM h.ok i2, <- q]; rfl
theorem EK {b : List (List L)} {i k : Int} (h : inR (ab (ay b i 0) k 0) 0 ((b.length : Int) - 1) = false) : yD b i k = false := by unfold yD; rw [h]; rfl
theorem EL {b : List (List L)} {i k : Int} (h : ab (ay b i 0) k 1 < 0) : yD b i k = false := by unfold yD; rw [decide_eq_false (by omega), Bool.and_false]
theorem EM {b : List (List L)} {i k : Int} (h : inR (ab (ay b i 0) k 0) 0 ((b.length : Int) - 1) = true) (g : 0 <= ab (ay b i 0) k 1) : yD b i k = true := by unfold yD; rw [h, decide_eq_true g]; rfl
theorem Ho {x : List (List L)} {i k : Int} (h : ab (ay x i 0) k 0 < 0) : yY x i k = false := by unfold yY; rw [decide_eq_false (by omega)]
theorem Dx {x : List (List L)} {i k : Int} (h : 0 <= ab (ay x i 0) k 0) : yY x i k = true := by unfold yY; rw [decide_eq_true h]
end Go.V
namespace Go.V
def D7 (b : List (List L)) (i : Int) : Nat -> List (List L)
 | 0 => []
 | n + 1 => D7 b i n ++ [[.v (.int .i64 (ab (ay b i 0) n 1))]]
def zI (b : List (List L)) : Nat -> List (List L)
 | 0 => []
 | n + 1 => zI b n ++ D7 b n (ay b n 0).length
def B9 (x : List (List L)) : Nat -> List (List L)
 | 0 => []
 | n + 1 => B9 x n ++ ay x n 0
def ifL (b x : List (List L)) : List (List L) := if mailOk b x then zI b b.length ++ B9 x x.length else []
theorem CV {b x : List (List L)} (h : mailOk b x = true) : b.length <= 4 /\ x.length = b.length := by
 unfold mailOk at h;simp only [Bool.and_eq_true, decide_eq_true_eq, bc] at h;omega
structure Dp (b : List (List L)) (i : Int) (o : List (List L)) : Prop where
 e : o = zI b i.toNat
 l : o.length <= 1099511627776 * i.toNat
structure Dq (b : List (List L)) (i k : Int) (o : List (List L)) : Prop where
 e : o = zI b i.toNat ++ D7 b i k.toNat
 l : o.length <= 1099511627776 * i.toNat + k.toNat
structure Dr (b x : List (List L)) (j : Int) (o : List (List L)) : Prop where
 e : o = zI b b.length ++ B9 x j.toNat
 l : o.length <= 1099511627776 * b.length + 1099511627776 * j.toNat
theorem HA {b : List (List L)} : Dp b 0 [] := ⟨rfl, Nat.zero_le _⟩
theorem HD {b o : List (List L)} {i : Int} (h : Dp b i o) : Dq b i 0 o := ⟨by rw [h.e]; simp [D7], by have := h.l; omega⟩
theorem D6 {b o : List (List L)} {i k : Int} (h : Dq b i k o) (k0 : 0 <= k) : Dq b i (k + 1) (o ++ [[.v (.int .i64 (ab (ay b i 0) k 1))]]) := by
 have l := h.l; have e := h.e;refine ⟨?_, ?_⟩
 ·rw [show (k + 1).toNat = k.toNat + 1 from by omega, D7, Int.toNat_of_nonneg k0, <- List.append_assoc, <- e]
 ·rw [List.length_append, List.length_cons, List.length_nil]; omega
theorem zM {b o : List (List L)} {i k : Int} (h : Dq b i k o) (i0 : 0 <= i) (hn : (ay b i 0).length <= 1099511627776) (k1 : k <= ((ay b i 0).length : Int)) (k2 : ((ay b i 0).length : Int) <= k) : Dp b (i + 1) o := by
 have l := h.l; have e := h.e;have ek : k.toNat = (ay b i 0).length := by omega
 refine ⟨?_, by omega⟩;rw [show (i + 1).toNat = i.toNat + 1 from by omega, zI, Int.toNat_of_nonneg i0, <- ek]; exact e
theorem HG {b x o : List (List L)} {i : Int} (h : Dp b i o) (i1 : i <= b.length) (i2 : (b.length : Int) <= i) : Dr b x 0 o := by
 have l := h.l; have e := h.e;have ei : i.toNat = b.length := by omega
 rw [ei] at e l;exact ⟨by rw [e]; simp [B9], by omega⟩
theorem Ed {b x o : List (List L)} {j : Int} (h : Dr b x j o) (j0 : 0 <= j) (hn : (ay x j 0).length <= 1099511627776) : Dr b x (j + 1) (o ++ ay x j 0) := by
 have l := h.l; have e := h.e;refine ⟨?_, ?_⟩
 ·rw [show (j + 1).toNat = j.toNat + 1 from by omega, B9, Int.toNat_of_nonneg j0, <- List.append_assoc, <- e]
 ·rw [List.length_append]; omega
theorem zU {b x o : List (List L)} {j : Int} (h : Dr b x j o) (hm : mailOk b x = true) (j1 : j <= x.length) (j2 : (x.length : Int) <= j) : o = ifL b x := by
 have e := h.e;rw [show j.toNat = x.length from by omega] at e;unfold ifL; rw [if_pos hm]; exact e
theorem H9 {b x : List (List L)} (hm : mailOk b x = false) : ([] : List (List L)) = ifL b x := by unfold ifL; rw [hm]; rfl
end Go.V
namespace Go.V
structure K8 (cs : List (List L)) : Prop where
 w : Rw [.sl [.sl [tI]]] cs
 l : cs.length <= 1099511627776
 n : ∀ i : Int, 0 <= i -> i < cs.length -> Du (ay cs i 0)
end Go.V
namespace Go.V
theorem rt : ∀ {fs : List Ty} {e : (List L)} {j : Nat}, bS fs e -> fs[j]? = some tI -> ∃ n, e[j]? = some (.v (.int .i64 n)) /\ -9223372036854775808 <= n /\ n <= 9223372036854775807
 | [], _, j, _, h => by simp at h
 | _ :: _, [], j, h, _ => h.elim
 | t :: ts, l :: ls, 0, h, e => by
   simp at e; subst e;have h1 := h.1;cases l with
   | v x => cases x with
     | int k n => simp only [cD] at h1; exact ⟨n, by simp [h1.1], FV h1.2⟩
     | _ => simp [cD] at h1
   | _ => simp [cD] at h1
 | t :: ts, l :: ls, j + 1, h, e => by
   simp at e;obtain ⟨n, h1, h2⟩ := rt h.2 e;exact ⟨n, by simpa using h1, h2⟩
theorem rJ {fs : List Ty} {es : List (List L)} {i : Int} {j : Nat} (h : Rw fs es) (hj : fs[j]? = some tI) (h1 : i.toNat < es.length) : -9223372036854775808 <= ab es i j /\ ab es i j <= 9223372036854775807 := by
 obtain ⟨n, e, b⟩ := rt (h.at h1) hj;unfold ab;rw [List.getD_eq_getElem?_getD (l := es.getD i.toNat []), e];exact b
theorem KR {x : Int} (h : -9223372036854775808 <= x /\ x <= 9223372036854775807) : Rw [tI] [[.v (.int .i64 x)]] := Rw.one (fs := [tI]) ⟨⟨rfl, h⟩, trivial⟩
def Hd (os : List (List L)) (f : Nat) : Nat -> List (List L)
 | 0 => []
 | n + 1 => Hd os f n ++ [[.v (.int .i64 (ab os n f))]]
def J4 (ls : List (List L)) : Nat -> List (List L)
 | 0 => []
 | n + 1 => J4 ls n ++ ay ls n 0
def JR (cs : List (List L)) : Nat -> List (List L)
 | 0 => []
 | n + 1 => JR cs n ++ J4 (ay cs n 0) (ay cs n 0).length
theorem pB {es : List (List L)} {n j : Nat} (h : n < es.length) : ao (ay es n j) <= cN (es.getD n []) := by
 unfold ay;rw [Int.toNat_natCast];generalize es.getD n [] = r;cases e : r[j]? with
 | none => rw [List.getD_eq_getElem?_getD, e]; exact Nat.zero_le _
 | some l =>
   rw [List.getD_eq_getElem?_getD, e];have q := xh e;cases l with
   | s sz es => exact q
   | _ => exact Nat.zero_le _
theorem fX {es : List (List L)} {n : Nat} (h : n < es.length) : aS (es.take (n + 1)) = aS (es.take n) + cN (es.getD n []) := by
 rw [eJ (d := []) h, db]; simp [aS]
theorem uo {es : List (List L)} {n : Nat} : aS (es.take n) <= aS es := by
 conv => rhs; rw [<- List.take_append_drop n es, db]
 omega
theorem kf {b : List (List L)} {i : Int} : ∀ n, (D7 b i n).length = n
 | 0 => rfl
 | n + 1 => by rw [D7, List.length_append, kf n]; rfl
theorem AU {b x : List (List L)} : ∀ n : Nat, (((zI b n).length + (B9 x n).length : Nat) : Int) = CW b x n
 | 0 => rfl
 | n + 1 => by
   have q := AU (b := b) (x := x) n;rw [CW, zI, B9, List.length_append, List.length_append, kf, <- q]; omega
theorem vX {b x : List (List L)} : (ifL b x).length <= 30 := by
 unfold ifL;by_cases c : mailOk b x = true
 ·rw [if_pos c, List.length_append];have t := CV c;unfold mailOk at c;simp only [Bool.and_eq_true, decide_eq_true_eq] at c;have q := AU (b := b) (x := x) b.length;rw [t.2]; omega
 ·rw [if_neg c]; exact Nat.zero_le _
theorem zN {b x : List (List L)} {i : Int} (h : tZ b x) (i0 : 0 <= i) (i1 : i < b.length) : ∀ n, n <= (ay b i 0).length -> Rw [tI] (D7 b i n)
 | 0, _ => Rw.nil
 | n + 1, hn => Rw.append (zN h i0 i1 n (by omega)) (KR (rJ (fs := [tI, tI]) (Rw.sub (fs := [.sl [tI, tI]]) h.bw (by omega) rfl) rfl (by omega))) (by
    have := h.bn i; rw [kf]; unfold maxLen; simp only [List.length_cons, List.length_nil]; omega)
theorem zJ {b x : List (List L)} (h : tZ b x) (hb : b.length <= 4) : ∀ n, n <= b.length -> Rw [tI] (zI b n) /\ (zI b n).length <= n * 1099511627776
 | 0, _ => ⟨Rw.nil, Nat.zero_le _⟩
 | n + 1, hn => by
   obtain ⟨q1, q2⟩ := zJ h hb n (by omega);have l := h.bn n;refine ⟨Rw.append q1 (zN h (by omega) (by omega) _ (Nat.le_refl _)) (by rw [kf]; unfold maxLen; omega), ?_⟩;rw [zI, List.length_append, kf]; omega
theorem zT {b x : List (List L)} (h : tZ b x) (hb : x.length <= 4) : ∀ n, n <= x.length -> Rw [tI] (B9 x n) /\ (B9 x n).length <= n * 1099511627776
 | 0, _ => ⟨Rw.nil, Nat.zero_le _⟩
 | n + 1, hn => by
   obtain ⟨q1, q2⟩ := zT h hb n (by omega);have l := h.xn n;refine ⟨Rw.append q1 (Rw.sub (fs := [.sl [tI]]) h.xw (by omega) rfl) (by unfold maxLen; omega), ?_⟩;rw [B9, List.length_append]; omega
theorem Aj {b x : List (List L)} (h : tZ b x) : Rw [tI] (ifL b x) := by
 unfold ifL;by_cases c : mailOk b x = true
 ·rw [if_pos c];have t := CV c;obtain ⟨q1, l1⟩ := zJ h t.1 b.length (Nat.le_refl _);obtain ⟨q2, l2⟩ := zT h (by omega) x.length (Nat.le_refl _);exact Rw.append q1 q2 (by unfold maxLen; omega)
 ·rw [if_neg c]; exact Rw.nil
structure sd (sp lg os cs b x qs : List (List L)) : Prop where
 sw : Rw [tI, tI, tI] sp
 lw : Rw [tI, tI, tI] lg
 ow : Rw [tI, tI, tI, tI] os
 cw : Rw [.sl [.sl [tI]]] cs
 qw : Rw [tI, tI, tI] qs
 m : tZ b x
 c : K8 cs
 sl : sp.length <= 1073741824
 ll : lg.length <= 1073741824
 ol : os.length <= 1073741824
 ql : qs.length <= 1073741824
 cl : ao cs <= 1073741824
structure Ls (os : List (List L)) (i : Int) (o : List (List L)) : Prop where
 e : o = Hd os 1 i.toNat
structure Lt (os cs : List (List L)) (i : Int) (o : List (List L)) : Prop where
 e : o = Hd os 1 os.length ++ JR cs i.toNat
structure Lu (os cs : List (List L)) (i k : Int) (o : List (List L)) : Prop where
 e : o = Hd os 1 os.length ++ JR cs i.toNat ++ J4 (ay cs i 0) k.toNat
structure Lv (os cs qs : List (List L)) (j : Int) (o : List (List L)) : Prop where
 e : o = Hd os 1 os.length ++ JR cs cs.length ++ Hd qs 0 j.toNat
section
variable {sp lg os cs b x qs o : List (List L)} {i k j : Int}
end
def CJ (e : (List L)) : Int := Kr (e.getD 0 .g)
theorem rK {l : List (List L)} {a : Int} : hasB l a = true ↔ a ∈ l.map CJ := by
 rw [xk, List.mem_map]
 constructor
 ·rintro ⟨k, hk, e⟩;refine ⟨l[k], List.getElem_mem _, ?_⟩;rw [<- e]; unfold ab CJ;rw [Int.toNat_natCast, List.getD_eq_getElem?_getD (l := l), List.getElem?_eq_getElem hk]; rfl
 ·rintro ⟨e, he, q⟩;obtain ⟨k, hk, rfl⟩ := List.mem_iff_getElem.1 he;refine ⟨k, hk, ?_⟩;rw [<- q]; unfold ab CJ;rw [Int.toNat_natCast, List.getD_eq_getElem?_getD (l := l), List.getElem?_eq_getElem hk]; rfl
theorem CH {l m : List (List L)} {a : Int} : hasB (l ++ m) a = (hasB l a || hasB m a) := by
 refine cR ?_;rw [Bool.or_eq_true, rK, rK, rK, List.map_append, List.mem_append]
theorem CI {x a : Int} : hasB [[.v (.int .i64 x)]] a = true ↔ x = a := by
 rw [rK];show a ∈ [x] ↔ x = a;rw [List.mem_singleton]; exact ⟨Eq.symm, Eq.symm⟩
theorem rD {p : Int -> Bool} {n : Nat} : 0 <= bW p n ↔ ∃ k : Nat, k < n /\ p k = true := by
 constructor
 ·intro h;obtain ⟨h1, h2⟩ := eh h;obtain ⟨k, e⟩ := Int.eq_ofNat_of_zero_le h;rw [e] at h1 h2;exact ⟨k, by omega, h2⟩
 ·rintro ⟨k, h1, h2⟩;exact ke h1 h2
def Ld (p : Int -> Bool) (l : List (List L)) : Nat -> List (List L)
 | 0 => []
 | n + 1 => Ld p l n ++ (if p (ab l n 0) then [[.v (.int .i64 (ab l n 0))]] else [])
structure Lp (p : Int -> Bool) (l : List (List L)) (i : Int) (o : List (List L)) : Prop where
 e : o = Ld p l i.toNat
 l : o.length <= i.toNat
section
variable {p : Int -> Bool} {l o : List (List L)} {i : Int}
end
theorem Aq {sp lg : List (List L)} : (laL sp lg).length <= 512 := by
 have k : ∀ n, (Ca sp lg n).length <= n := by
  intro n
  induction n with
  | zero => exact Nat.le_refl _
  | succ n ih => rw [Ca, List.length_append]; split <;> simp <;> omega
 unfold laL; split
 ·exact k 512
 ·exact Nat.zero_le _
theorem Ig {sp lg : List (List L)} : Rw [tI] (laL sp lg) := by
 unfold laL;by_cases c : layOk sp lg = true
 ·rw [if_pos c, pG];refine lD (fun x hx => ?_) ?_
  ·have := kn.1 hx; omega
  ·have q := Aq (sp := sp) (lg := lg); unfold laL at q; rw [if_pos c, pG, bC] at q; omega
 ·rw [if_neg c]; exact Rw.nil
theorem rP {l : List (List L)} {i : Int} (h : Rw [tI] l) (h0 : 0 <= i) (h1 : i < l.length) : ∃ rec o, bH (L.s 1 l) [(i.toNat, 0)] = some (rec, o) /\ o + [L.v (Value.int IntKind.i64 0)].length <= rec.length /\ List.take [L.v (Value.int IntKind.i64 0)].length (List.drop o rec) = jy ah (L.s 1 l) [(i.toNat, 0)] 0 [L.v (Value.int IntKind.i64 0)] :=
 Bw (z0 := [.v (.int .i64 0)]) (z := [.v (.int .i64 0)]) h.wf (by omega) rfl (by decide)
theorem sK {es : List (List L)} {i : Int} {j : Nat} : ao (ay es i j) <= ao es := by
 by_cases c : i.toNat < es.length
 ·have q := pB (j := j) c;rw [show ay es (i.toNat : Nat) j = ay es i j from by unfold ay; rw [Int.toNat_natCast]] at q;have d := fX c;have e := uo (es := es) (n := i.toNat + 1);unfold ao at q ⊢; omega
 ·have e : ay es i j = [] := by
   unfold ay; rw [List.getD_eq_getElem?_getD (l := es), List.getElem?_eq_none (by omega)]; simp [Ks]
  rw [e]; exact Nat.zero_le _
theorem Gv {ls : List (List L)} (h : Rw [.sl [tI]] ls) (hc : ao ls <= 1073741824) : Du ls := by
 refine ⟨h, by unfold ao at hc; omega, fun i => ?_⟩;have := sK (es := ls) (i := i) (j := 0);unfold ao at this hc; omega
theorem Gt {cs : List (List L)} (h : Rw [.sl [.sl [tI]]] cs) (hc : ao cs <= 1073741824) : K8 cs := by
 refine ⟨h, by unfold ao at hc; omega, fun i i0 i1 => Gv (Rw.sub (fs := [.sl [.sl [tI]]]) h (by omega) rfl) ?_⟩;exact Nat.le_trans sK hc
theorem Gw {b x : List (List L)} (hb : Rw [.sl [tI, tI]] b) (hx : Rw [.sl [tI]] x) (cb : ao b <= 1073741824) (cx : ao x <= 1073741824) : tZ b x := by
 refine ⟨hb, hx, by unfold ao at cb; omega, by unfold ao at cx; omega, fun i => ?_, fun i => ?_⟩
 ·have := sK (es := b) (i := i) (j := 0); unfold ao at this cb; omega
 ·have := sK (es := x) (i := i) (j := 0); unfold ao at this cx; omega
theorem Gu {sp lg os cs b x qs : List (List L)} (hs : Rw [tI, tI, tI] sp) (hl : Rw [tI, tI, tI] lg) (ho : Rw [tI, tI, tI, tI] os) (hc : Rw [.sl [.sl [tI]]] cs) (hb : Rw [.sl [tI, tI]] b) (hx : Rw [.sl [tI]] x) (hq : Rw [tI, tI, tI] qs) 
 (cs1 : ao sp <= 1048576) (cl : ao lg <= 1048576) (co : ao os <= 1048576) (cc : ao cs <= 1048576) (cb : ao b <= 1048576) (cx : ao x <= 1048576) (cq : ao qs <= 1048576) : sd sp lg os cs b x qs :=
 ⟨hs, hl, ho, hc, hq, Gw hb hx (by omega) (by omega), Gt hc (by omega), by unfold ao at cs1; omega, by unfold ao at cl; omega, by unfold ao at co; omega, by unfold ao at cq; omega, by omega⟩
end Go.V
namespace Go.V
theorem p9 {i : Int} (h : 0 <= i) (h1 : i <= 9223372036854775807) : bu .sub .i64 i 1 = i - 1 := ce (by omega)
theorem qa {es : List (List L)} {i : Int} : yH es (Int.toNat 0) (J6 i 0) = es.take i.toNat := by simp [yH, J6]
theorem cmp_eq {a b : Int} : bQ .eql a b = decide (a = b) := by unfold bQ; by_cases c : a = b <;> simp [c]
theorem sE {a b : Int} : bQ .neq a b = decide (a ≠ b) := by unfold bQ; by_cases c : a = b <;> simp [c]
def rngIn (n a l : Int) : Bool := inR l 1 n && inR a 0 (n - l)
def nF (n : Int) (rs : List (List L)) (i : Int) : Bool := rngIn n (ab rs i 0) (ab rs i 1) && !(decide (0 < i) && decide (ab rs i 0 <= bu .add .i64 (ab rs (i - 1) 0) (ab rs (i - 1) 1)))
def rgOk (n : Int) (rs : List (List L)) : Bool := bE (nF n rs) rs.length && inR n 1 32
section
variable {n i : Int} {rs : List (List L)}
theorem Bu (i0 : 0 <= i) (i1 : i < rs.length) (h : rngIn n (ab rs i 0) (ab rs i 1) = false) : rgOk n rs = false := by
 unfold rgOk; rw [aZ i0 i1 (by unfold nF; rw [h]; rfl)]; rfl
theorem Bv (i0 : 0 <= i) (i1 : i < rs.length) (h : 0 < i) (g : ab rs i 0 <= bu .add .i64 (ab rs (i - 1) 0) (ab rs (i - 1) 1)) : rgOk n rs = false := by
 unfold rgOk; rw [aZ i0 i1 (by unfold nF; rw [decide_eq_true h, decide_eq_true g]; simp)]; rfl
theorem yb (h : rngIn n (ab rs i 0) (ab rs i 1) = true) (g : i <= 0) : nF n rs i = true := by
 unfold nF; rw [h, decide_eq_false (by omega)]; rfl
theorem yc (h : rngIn n (ab rs i 0) (ab rs i 1) = true) (g : bu .add .i64 (ab rs (i - 1) 0) (ab rs (i - 1) 1) < ab rs i 0) : nF n rs i = true := by
 unfold nF; rw [h, decide_eq_false (p := ab rs i 0 <= _) (by omega)]; simp
theorem Bt (h : upto (nF n rs) i) (g : (rs.length : Int) <= i) : inR n 1 32 = rgOk n rs := by unfold rgOk; rw [aM h g]; rfl
end
def kh (rs : List (List L)) (p j : Int) : Bool := decide (ab rs j 0 <= p) && decide (p < bu .add .i64 (ab rs j 0) (ab rs j 1))
def rhI (rs : List (List L)) (p : Int) : Int := bW (kh rs p) rs.length
def rhB (rs : List (List L)) (p : Int) : Bool := decide (0 <= rhI rs p)
def rh1 (a l p : Int) : Bool := decide (a <= p) && decide (p < bu .add .i64 a l)
theorem GH {rs : List (List L)} {p i : Int} (h : upto (bP (kh rs p)) i) (h0 : 0 <= i) (h1 : i < rs.length) (a : ab rs i 0 <= p) (b : p < bu .add .i64 (ab rs i 0) (ab rs i 1)) : rhB rs p = true := by
 unfold rhB rhI; rw [cy h h0 h1 (by unfold kh; rw [decide_eq_true a, decide_eq_true b]; rfl)]; exact decide_eq_true h0
theorem Jq {rs : List (List L)} {p i : Int} (h : upto (bP (kh rs p)) i) (h1 : (rs.length : Int) <= i) : rhB rs p = false := by
 unfold rhB rhI; rw [cO h h1]; rfl
theorem Jo {rs : List (List L)} {p i : Int} (a : p < ab rs i 0) : bP (kh rs p) i = true := by unfold bP kh; rw [decide_eq_false (by omega)]; rfl
theorem Jp {rs : List (List L)} {p i : Int} (b : bu .add .i64 (ab rs i 0) (ab rs i 1) <= p) : bP (kh rs p) i = true := by unfold bP kh; rw [decide_eq_false (p := p < _) (by omega)]; simp
def mshB (p1 k1 b1 p2 k2 b2 : Int) : Bool := spOk p1 k1 b1 && (spOk p2 k2 b2 && (decide (k1 = k2) && (decide (p1 ≠ p2) && decide (bu .and .i64 b1 b2 = 0))))
def GF (qs : List (List L)) : Nat -> Int
 | 0 => 0
 | n + 1 => GF qs n + clsSz (ab qs n 1)
def qcI (qs : List (List L)) : Int := GF qs qs.length
theorem xf {k : Int} : 0 <= clsSz k /\ clsSz k <= 8 := by
 unfold clsSz; repeat' split
 all_goals omega
theorem EU {qs : List (List L)} : ∀ n : Nat, 0 <= GF qs n /\ GF qs n <= 8 * n
 | 0 => ⟨Int.le_refl _, Int.le_refl _⟩
 | n + 1 => by have q := EU (qs := qs) n; have c := xf (k := ab qs n 1); rw [GF]; omega
structure Ci (qs : List (List L)) (i t : Int) : Prop where
 e : t = GF qs i.toNat
theorem Jg {qs : List (List L)} : Ci qs 0 0 := ⟨rfl⟩
theorem KH {qs : List (List L)} {i t : Int} (h : Ci qs i t) (i0 : 0 <= i) : 0 <= t /\ t <= 8 * i := by have q := EU (qs := qs) i.toNat; rw [<- h.e] at q; omega
theorem EV {qs : List (List L)} {i t : Int} (h : Ci qs i t) (i0 : 0 <= i) (i1 : i <= 1099511627776) : Ci qs (i + 1) (bu .add .i64 t (clsSz (ab qs i 1))) := by
 have b := KH h i0;have c := xf (k := ab qs i 1);refine ⟨?_⟩;rw [show bu .add .i64 t (clsSz (ab qs i 1)) = t + clsSz (ab qs i 1) from bG (by omega), show (i + 1).toNat = i.toNat + 1 from by omega, GF, <- h.e, Int.toNat_of_nonneg i0]
theorem Bl {qs : List (List L)} {i t : Int} (h : Ci qs i t) (i1 : i <= qs.length) (i2 : (qs.length : Int) <= i) : t = qcI qs := by unfold qcI; rw [h.e, show i.toNat = qs.length from by omega]
def stlOk (b : List (List L)) (a c s : Int) : Bool := inR c 0 3 && (decide (0 <= a) && (decide (0 <= s) && (!qtB b a && (decide (b.length = 0) || decide (ab b (b.length - 1 : Int) 2 <= s)))))
def uQ (qs : List (List L)) (i : Int) : Bool := stlOk (qs.take i.toNat) (ab qs i 0) (ab qs i 1) (ab qs i 2)
def quarOk (rm : Int) (qs : List (List L)) : Bool := bE (uQ qs) qs.length && (inR rm 0 500 && decide (qcI qs <= rm))
def staB (a c s : Int) : Bool := inR c 0 3 && (decide (0 <= a) && decide (0 <= s))
theorem nQ {es : List (List L)} {n : Nat} {i : Int} {j : Nat} (h : i.toNat < n) : ab (es.take n) i j = ab es i j := by
 unfold ab;rw [List.getD_eq_getElem?_getD (l := es.take n), List.getElem?_take, if_pos h, List.getD_eq_getElem?_getD (l := es)]
section
variable {rm i : Int} {qs : List (List L)}
theorem x5 (i0 : 0 <= i) (i1 : i < qs.length) (h : uQ qs i = false) : quarOk rm qs = false := by unfold quarOk; rw [aZ i0 i1 h]; rfl
theorem Bm (h : upto (uQ qs) i) (g : (qs.length : Int) <= i) : quarOk rm qs = (inR rm 0 500 && decide (qcI qs <= rm)) := by unfold quarOk; rw [aM h g]; rfl
theorem Jb (h : staB (ab qs i 0) (ab qs i 1) (ab qs i 2) = false) : uQ qs i = false := by
 unfold uQ stlOk;unfold staB at h
 revert h
 cases inR (ab qs i 1) 0 3 <;> cases decide (0 <= ab qs i 0) <;> cases decide (0 <= ab qs i 2) <;> simp
theorem xZ (i0 : 0 < i) (i1 : i < qs.length) : (decide ((qs.take i.toNat).length = 0) || decide (ab (qs.take i.toNat) ((qs.take i.toNat).length - 1 : Int) 2 <= ab qs i 2)) = decide (ab qs (i - 1) 2 <= ab qs i 2) := by
 have e : (qs.take i.toNat).length = i.toNat := by rw [List.length_take]; omega
 rw [e, nQ (by omega), decide_eq_false (p := i.toNat = 0) (by omega), show ((i.toNat : Nat) : Int) - 1 = i - 1 from by omega]; rfl
theorem Jc (i0 : 0 < i) (i1 : i < qs.length) (h : ab qs i 2 < ab qs (i - 1) 2) : uQ qs i = false := by
 unfold uQ stlOk; rw [xZ i0 i1, decide_eq_false (p := ab qs (i - 1) 2 <= ab qs i 2) (by omega)]; simp
theorem Jd (h : qtB (qs.take i.toNat) (ab qs i 0) = true) : uQ qs i = false := by unfold uQ stlOk; rw [h]; simp
theorem Je (h : staB (ab qs i 0) (ab qs i 1) (ab qs i 2) = true) (g : qtB (qs.take i.toNat) (ab qs i 0) = false) (i0 : 0 <= i) (z : i <= 0) : uQ qs i = true := by
 unfold uQ stlOk;unfold staB at h;simp only [Bool.and_eq_true] at h;have e : i = 0 := by omega
 subst e;rw [h.1, h.2.1, h.2.2, g]; rfl
theorem Jf (h : staB (ab qs i 0) (ab qs i 1) (ab qs i 2) = true) (g : qtB (qs.take i.toNat) (ab qs i 0) = false) (i0 : 0 < i) (i1 : i < qs.length) (z : ab qs (i - 1) 2 <= ab qs i 2) : uQ qs i = true := by
 unfold uQ stlOk;unfold staB at h;simp only [Bool.and_eq_true] at h;rw [xZ i0 i1, h.1, h.2.1, h.2.2, g, decide_eq_true z]; rfl
end
def nL (ls : List (List L)) (i : Int) : Nat -> List Int
 | 0 => []
 | n + 1 => nL ls i n ++ [ab (ay ls i 0) n 0]
def nN (ls : List (List L)) : Nat -> List Int
 | 0 => []
 | n + 1 => nN ls n ++ nL ls n (ay ls n 0).length
def DF (ls : List (List L)) (i k : Int) : Bool := inR (ab (ay ls i 0) k 0) 0 511 && decide (bu .rem .i64 (ab (ay ls i 0) k 0) (clsSz i) = 0)
def Fs (ls : List (List L)) (i : Int) : Bool := decide ((ay ls i 0).length <= 8) && bE (DF ls i) (ay ls i 0).length
def caOk (ls : List (List L)) : Bool := decide (ls.length = 4) && (bE (Fs ls) 4 && decide ((nN ls 4).Nodup))
theorem nM {ls : List (List L)} {i : Int} : ∀ n, (nL ls i n).length = n
 | 0 => rfl
 | n + 1 => by rw [nL, List.length_append, nM n]; rfl
theorem wZ {ls : List (List L)} {i : Int} : ∀ (m n : Nat), n <= m -> ∃ r, nL ls i m = nL ls i n ++ r
 | 0, n, h => ⟨[], by rw [show n = 0 from by omega]; rfl⟩
 | m + 1, n, h => by
   by_cases c : n = m + 1
   ·subst c; exact ⟨[], by simp⟩
   ·obtain ⟨r, e⟩ := wZ (ls := ls) (i := i) m n (by omega);exact ⟨r ++ [ab (ay ls i 0) m 0], by rw [nL, e, List.append_assoc]⟩
theorem xc {ls : List (List L)} : ∀ (m n : Nat), n <= m -> ∃ r, nN ls m = nN ls n ++ r
 | 0, n, h => ⟨[], by rw [show n = 0 from by omega]; rfl⟩
 | m + 1, n, h => by
   by_cases c : n = m + 1
   ·subst c; exact ⟨[], by simp⟩
   ·obtain ⟨r, e⟩ := xc (ls := ls) m n (by omega);exact ⟨r ++ nL ls m (ay ls m 0).length, by rw [nN, e, List.append_assoc]⟩
theorem po {ls : List (List L)} {i k : Int} (h : 0 <= k) : nL ls i (k + 1).toNat = nL ls i k.toNat ++ [ab (ay ls i 0) k 0] := by
 rw [show (k + 1).toNat = k.toNat + 1 from by omega, nL, Int.toNat_of_nonneg h]
theorem pp {ls : List (List L)} {i : Int} (h : 0 <= i) : nN ls (i + 1).toNat = nN ls i.toNat ++ nL ls i (ay ls i 0).length := by
 rw [show (i + 1).toNat = i.toNat + 1 from by omega, nN, Int.toNat_of_nonneg h]
structure E5 (ls : List (List L)) (i : Int) : Prop where
 ok : upto (Fs ls) i
 nd : (nN ls i.toNat).Nodup
 l : i <= 4
 b : ∀ x ∈ nN ls i.toNat, 0 <= x /\ x <= 511
 n : (nN ls i.toNat).length <= 8 * i.toNat
structure GT (ls : List (List L)) (i k : Int) : Prop where
 ok : upto (Fs ls) i
 nd : (nN ls i.toNat ++ nL ls i k.toNat).Nodup
 l : i <= 3
 s : (ay ls i 0).length <= 8
 bk : upto (DF ls i) k
 b : ∀ x ∈ nN ls i.toNat ++ nL ls i k.toNat, 0 <= x /\ x <= 511
 n : (nN ls i.toNat).length <= 8 * i.toNat
section
variable {ls : List (List L)} {i k : Int}
theorem Hp : E5 ls 0 := ⟨aG, List.nodup_nil, by omega, (fun x hx => by cases hx), Nat.zero_le _⟩
theorem Hr (h : E5 ls i) (i0 : 0 <= i) (c : inR i 0 3 = true) (s : (ay ls i 0).length <= 8) : GT ls i 0 :=
 ⟨h.ok, by simpa [nL] using h.nd, (bc.1 c).2, s, aG, by simpa [nL] using h.b, h.n⟩
theorem DL (h : GT ls i k) (k0 : 0 <= k) (h1 : inR (ab (ay ls i 0) k 0) 0 511 = true) (h2 : bu .rem .i64 (ab (ay ls i 0) k 0) (clsSz i) = 0) (h3 : ab (ay ls i 0) k 0 ∉ nN ls i.toNat ++ nL ls i k.toNat) : GT ls i (k + 1) := by
 refine ⟨h.ok, ?_, h.l, h.s, aw h.bk (by unfold DF; rw [h1, decide_eq_true h2]; rfl), ?_, h.n⟩
 ·rw [po k0, <- List.append_assoc]; exact fc h.nd h3
 ·rw [po k0, <- List.append_assoc];intro x hx;rcases List.mem_append.1 hx with q | q
  ·exact h.b x q
  ·simp at q; subst q; exact bc.1 h1
theorem DI (h : GT ls i k) (i0 : 0 <= i) (k1 : k <= ((ay ls i 0).length : Int)) (k2 : ((ay ls i 0).length : Int) <= k) : E5 ls (i + 1) := by
 have e : k.toNat = (ay ls i 0).length := by omega
 have nd := h.nd; have b := h.b; have n := h.n; have s := h.s; have l := h.l;rw [e, <- pp i0] at nd b;refine ⟨aw h.ok (by unfold Fs; rw [decide_eq_true h.s, aM h.bk k2]; rfl), nd, by omega, b, ?_⟩;rw [pp i0, List.length_append, nM]; omega
theorem sB (h : (ls.length : Int) ≠ 4) : caOk ls = false := by unfold caOk; rw [decide_eq_false (by omega)]; rfl
theorem DG (i0 : 0 <= i) (l : i <= 3) (h : Fs ls i = false) : caOk ls = false := by unfold caOk; rw [aZ (n := 4) i0 (by omega) h]; simp
theorem zu (i0 : 0 <= i) (h : 8 < (ay ls i 0).length) (l : i <= 3) : caOk ls = false := DG i0 l (by unfold Fs; rw [decide_eq_false (by omega)]; rfl)
theorem sC (i0 : 0 <= i) (l : i <= 3) (k0 : 0 <= k) (k1 : k < (ay ls i 0).length) (h : DF ls i k = false) : caOk ls = false := DG i0 l (by unfold Fs; rw [aZ k0 k1 h, Bool.and_false])
theorem DJ (h : inR (ab (ay ls i 0) k 0) 0 511 = false) : DF ls i k = false := by unfold DF; rw [h]; rfl
theorem DK (h : bu .rem .i64 (ab (ay ls i 0) k 0) (clsSz i) ≠ 0) : DF ls i k = false := by unfold DF; rw [decide_eq_false h, Bool.and_false]
theorem zt (i0 : 0 <= i) (l : i <= 3) (k0 : 0 <= k) (k1 : k < (ay ls i 0).length) (h : ab (ay ls i 0) k 0 ∈ nN ls i.toNat ++ nL ls i k.toNat) : caOk ls = false := by
 obtain ⟨r, e⟩ := xc (ls := ls) 4 (i + 1).toNat (by omega);obtain ⟨r2, e2⟩ := wZ (ls := ls) (i := i) (ay ls i 0).length (k + 1).toNat (by omega);rw [pp i0, e2, po k0] at e;have : ¬ (nN ls 4).Nodup := dup (a := nN ls i.toNat ++ nL ls i k.toNat) (b := r2 ++ r) (x := ab (ay ls i 0) k 0) (by rw [e]; simp only [List.append_assoc]; rfl) h;unfold caOk; rw [decide_eq_false this]; simp
theorem zw (h : E5 ls i) (h1 : (ls.length : Int) = 4) (i2 : 4 <= i) : caOk ls = true := by
 have l := h.l;have e : i = 4 := by omega
 subst e;unfold caOk; rw [decide_eq_true (by omega), aM h.ok (by omega), decide_eq_true (p := (nN ls 4).Nodup) h.nd]; rfl
theorem Ft (h : E5 ls i) (i1 : i <= ls.length) (i2 : (ls.length : Int) <= i) : decide ((ls.length : Int) = 4) = caOk ls := by
 by_cases c : (ls.length : Int) = 4
 ·rw [zw h c (by omega)]; exact decide_eq_true c
 ·rw [sB c]; exact decide_eq_false c
end
structure Hn (ls : List (List L)) (i : Int) (o : List (List L)) : Prop where
 p : E5 ls i
 e : o = dX (nN ls i.toNat)
structure Dw (ls : List (List L)) (i k : Int) (o : List (List L)) : Prop where
 p : GT ls i k
 e : o = dX (nN ls i.toNat ++ nL ls i k.toNat)
structure vC (ls : List (List L)) (i : Int) (es : List (List L)) : Prop where
 p : E5 ls i
 s : jc es (nN ls i.toNat)
structure vD (ls : List (List L)) (i k : Int) (es : List (List L)) : Prop where
 p : GT ls i k
 s : jc es (nN ls i.toNat ++ nL ls i k.toNat)
section
variable {ls o es : List (List L)} {i k : Int}
theorem K5 : Hn ls 0 [] := ⟨Hp, rfl⟩
theorem K6 (h : Hn ls i o) (i0 : 0 <= i) (i1 : i < 4) (s : (ay ls i 0).length <= 8) : Dw ls i 0 o := ⟨Hr h.p i0 (bc.2 (by omega)) s, by rw [h.e]; simp [nL]⟩
theorem JE (h : Dw ls i k o) (k0 : 0 <= k) (h1 : inR (ab (ay ls i 0) k 0) 0 511 = true) (h2 : bu .rem .i64 (ab (ay ls i 0) k 0) (clsSz i) = 0) (h3 : hasB o (ab (ay ls i 0) k 0) = false) : Dw ls i (k + 1) (o ++ [[.v (.int .i64 (ab (ay ls i 0) k 0))]]) := by
 have e := h.e;rw [e] at h3;refine ⟨DL h.p k0 h1 h2 (nR h3), ?_⟩;rw [po k0, <- List.append_assoc, dq, <- e]; rfl
theorem JD (h : Dw ls i k o) (i0 : 0 <= i) (k1 : k <= ((ay ls i 0).length : Int)) (k2 : ((ay ls i 0).length : Int) <= k) : Hn ls (i + 1) o :=
 ⟨DI h.p i0 k1 k2, by rw [pp i0, h.e, show k.toNat = (ay ls i 0).length from by omega]⟩
theorem GK (h : Dw ls i k o) (i0 : 0 <= i) (k0 : 0 <= k) (k1 : k < (ay ls i 0).length) (h3 : hasB o (ab (ay ls i 0) k 0) = true) : caOk ls = false := by
 rw [h.e, iG] at h3;exact zt i0 h.p.l k0 k1 h3
theorem GL (h : Dw ls i k o) (k0 : 0 <= k) : o.length <= 40 + k.toNat /\ Rw [tI] o := by
 have n := h.p.n; have l := h.p.l; have s := h.p.s;have q : o.length <= 40 + k.toNat := by rw [h.e, bC, List.length_append, nM]; omega
 refine ⟨q, ?_⟩;rw [h.e];have nd := h.p.nd;refine lD (fun x hx => by have := h.p.b x hx; omega) ?_;rw [<- bC, <- h.e];have bd : k.toNat <= 512 \/ 512 < k.toNat := by omega
 rcases bd with bd | bd
 ·omega
 ·exfalso;have c := List.Nodup.length_le_of_subset (l₁ := nN ls i.toNat ++ nL ls i k.toNat) (l₂ := (List.range 512).map fun j : Nat => (j : Int)) nd (fun x hx => by
   have b := h.p.b x hx;rw [List.mem_map];exact ⟨x.toNat, List.mem_range.2 (by omega), by omega⟩)
  rw [List.length_append, nM, List.length_map, List.length_range] at c;omega
theorem H7 : vC ls 0 [] := ⟨Hp, wz⟩
theorem H8 (h : vC ls i es) (i0 : 0 <= i) (c : inR i 0 3 = true) (s : (ay ls i 0).length <= 8) : vD ls i 0 es := ⟨Hr h.p i0 c s, by simpa [nL] using h.s⟩
theorem FT (h : vD ls i k es) (k0 : 0 <= k) (h1 : inR (ab (ay ls i 0) k 0) 0 511 = true) (h2 : bu .rem .i64 (ab (ay ls i 0) k 0) (clsSz i) = 0) (h3 : mgbI es (ab (ay ls i 0) k 0) = false) : vD ls i (k + 1) (fS es (ab (ay ls i 0) k 0) (.v (.bool true))) := by
 refine ⟨DL h.p k0 h1 h2 (fun m => by rw [(h.s.at_ _).2 m] at h3; cases h3), ?_⟩;rw [po k0, <- List.append_assoc]; exact oa h.s
theorem FS (h : vD ls i k es) (i0 : 0 <= i) (k1 : k <= ((ay ls i 0).length : Int)) (k2 : ((ay ls i 0).length : Int) <= k) : vC ls (i + 1) es :=
 ⟨DI h.p i0 k1 k2, by have s := h.s; rw [show k.toNat = (ay ls i 0).length from by omega] at s; rw [pp i0]; exact s⟩
theorem CN (h : vD ls i k es) (i0 : 0 <= i) (k0 : 0 <= k) (k1 : k < (ay ls i 0).length) (h3 : mgbI es (ab (ay ls i 0) k 0) = true) : caOk ls = false := zt i0 h.p.l k0 k1 ((h.s.at_ _).1 h3)
theorem CL (h : vC ls i es) (i0 : 0 <= i) (s : 8 < (ay ls i 0).length) (i1 : i < ls.length) : caOk ls = false := by
 by_cases c : (ls.length : Int) = 4
 ·exact zu i0 s (by omega)
 ·exact sB c
theorem CM (h : vC ls i es) (i0 : 0 <= i) (c : inR i 0 3 = false) (i1 : i < ls.length) : caOk ls = false := by
 have := ji.1 c;exact sB (by omega)
end
def yT (cs : List (List L)) (i : Int) : Bool := inR (ab cs i 0) 0 15 && !(decide (0 < i) && decide (ab cs i 0 <= ab cs (i - 1) 0))
def plOk (k m : Int) (cs : List (List L)) : Bool := bE (yT cs) cs.length && (inR k 0 31 && (inR m 0 31 && decide (k ≠ m)))
def jbOk (k m : Int) (cs : List (List L)) (ph nx : Int) : Bool := plOk k m cs && (inR ph 0 5 && inR nx 0 cs.length)
section
variable {k m i : Int} {cs : List (List L)}
theorem Bg (i0 : 0 <= i) (i1 : i < cs.length) (h : inR (ab cs i 0) 0 15 = false) : plOk k m cs = false := by
 unfold plOk; rw [aZ i0 i1 (by unfold yT; rw [h]; rfl)]; rfl
theorem Bh (i0 : 0 <= i) (i1 : i < cs.length) (h : 0 < i) (g : ab cs i 0 <= ab cs (i - 1) 0) : plOk k m cs = false := by
 unfold plOk; rw [aZ i0 i1 (by unfold yT; rw [decide_eq_true h, decide_eq_true g]; simp)]; rfl
theorem xV (h : inR (ab cs i 0) 0 15 = true) (g : i <= 0) : yT cs i = true := by unfold yT; rw [h, decide_eq_false (by omega)]; rfl
theorem xW (h : inR (ab cs i 0) 0 15 = true) (g : ab cs (i - 1) 0 < ab cs i 0) : yT cs i = true := by
 unfold yT; rw [h, decide_eq_false (p := ab cs i 0 <= _) (by omega)]; simp
theorem tj (h : upto (yT cs) i) (g : (cs.length : Int) <= i) : plOk k m cs = (inR k 0 31 && (inR m 0 31 && decide (k ≠ m))) := by unfold plOk; rw [aM h g]; rfl
end
end Go.V
namespace Go.V
theorem DY {sp lg : List (List L)} {a : Int} (h : layOk sp lg = true) : dzK sp lg a = dnK sp lg a := by unfold dzK; rw [if_pos h]
theorem DZ {sp lg : List (List L)} {a : Int} (h : layOk sp lg = true) : dzI sp lg a = dnI sp lg a := by unfold dzI; rw [if_pos h]
theorem D1 {sp lg : List (List L)} {a : Int} (h : layOk sp lg = true) : dzO sp lg a = dnO sp lg a := by unfold dzO; rw [if_pos h]
theorem ut {sp lg : List (List L)} {a : Int} (h : dnK sp lg a = 1) : 0 <= dnI sp lg a /\ dnI sp lg a < sp.length := by
 unfold dnK at h;by_cases c : 0 <= hK sp a
 ·unfold dnI; rw [if_pos c];rcases ka (p := rV sp a) (n := sp.length) with q | q
  ·have : hK sp a = -1 := q;omega
  ·exact q
 ·rw [if_neg c] at h;by_cases d : 0 <= l5 lg a
  ·rw [if_pos d] at h; omega
  ·rw [if_neg d] at h; omega
theorem DX {sp lg : List (List L)} {a : Int} (h : dnK sp lg a = 3) : 0 <= dnI sp lg a /\ dnI sp lg a < lg.length := by
 unfold dnK at h;by_cases c : 0 <= hK sp a
 ·rw [if_pos c] at h;split at h <;> omega
 ·rw [if_neg c] at h;by_cases d : 0 <= l5 lg a
  ·unfold dnI; rw [if_neg c, if_pos d];rcases ka (p := sU lg a) (n := lg.length) with q | q
   ·have : l5 lg a = -1 := q;omega
   ·exact q
  ·rw [if_neg d] at h; omega
def vZ (os : List (List L)) (x j : Int) : Bool := eqB (ab os j 0) x
def oiI (os : List (List L)) (x : Int) : Int := bW (vZ os x) os.length
def oiB (os : List (List L)) (x : Int) : Bool := decide (0 <= oiI os x)
def okO (sp lg : List (List L)) (a s : Int) : Bool := decide (dnO sp lg a = 0) && ((decide (dnK sp lg a = 1) && decide (ab sp (dnI sp lg a) 1 = clsOf s)) || (decide (dnK sp lg a = 3) && decide (ab lg (dnI sp lg a) 2 = s)))
def ra (sp lg os cs : List (List L)) (nx i : Int) : Bool :=
 !(decide (0 < i) && decide (ab os i 1 <= ab os (i - 1) 1)) && (inR (ab os i 0) 1 (bu .sub .i64 nx 1) && (inR (ab os i 3) 0 (cs.length - 1 : Int) && (!oiB (os.take i.toNat) (ab os i 0) && okO sp lg (ab os i 1) (ab os i 2))))
def objOk (sp lg os cs : List (List L)) (nx : Int) : Bool := bE (ra sp lg os cs nx) os.length
section
variable {sp lg os cs : List (List L)} {nx i k : Int}
theorem gL (i0 : 0 <= i) (i1 : i < os.length) (h : ra sp lg os cs nx i = false) : objOk sp lg os cs nx = false := aZ i0 i1 h
theorem A1 (h : upto (ra sp lg os cs nx) i) (g : (os.length : Int) <= i) : objOk sp lg os cs nx = true := aM h g
theorem ED (h : 0 < i) (g : ab os i 1 <= ab os (i - 1) 1) : ra sp lg os cs nx i = false := by unfold ra; rw [decide_eq_true h, decide_eq_true g]; rfl
theorem EE (h : inR (ab os i 0) 1 (bu .sub .i64 nx 1) = false) : ra sp lg os cs nx i = false := by unfold ra; rw [h]; simp
theorem EF (h : inR (ab os i 3) 0 (cs.length - 1 : Int) = false) : ra sp lg os cs nx i = false := by unfold ra; rw [h]; simp
theorem EG (h : oiB (os.take i.toNat) (ab os i 0) = true) : ra sp lg os cs nx i = false := by unfold ra; rw [h]; simp
theorem xP (h : okO sp lg (ab os i 1) (ab os i 2) = false) : ra sp lg os cs nx i = false := by unfold ra; rw [h]; simp
theorem C3 (h1 : i <= 0 \/ ab os (i - 1) 1 < ab os i 1) (h2 : inR (ab os i 0) 1 (bu .sub .i64 nx 1) = true) (h3 : inR (ab os i 3) 0 (cs.length - 1 : Int) = true) (h4 : oiB (os.take i.toNat) (ab os i 0) = false) (h5 : okO sp lg (ab os i 1) (ab os i 2) = true) : ra sp lg os cs nx i = true := by
 unfold ra;rw [h2, h3, h4, h5];rcases h1 with h | h
 ·rw [decide_eq_false (p := 0 < i) (by omega)]; rfl
 ·rw [decide_eq_false (p := ab os i 1 <= ab os (i - 1) 1) (by omega)]; simp
theorem EH {a s : Int} (h : dnO sp lg a ≠ 0) : okO sp lg a s = false := by unfold okO; rw [decide_eq_false h]; rfl
theorem IU {a s : Int} (h1 : dnK sp lg a ≠ 1 \/ ab sp (dnI sp lg a) 1 ≠ clsOf s) (h2 : dnK sp lg a ≠ 3 \/ ab lg (dnI sp lg a) 2 ≠ s) : okO sp lg a s = false := by
 unfold okO;rcases h1 with h | h <;> rcases h2 with g | g <;> simp [h, g]
theorem EI {a s : Int} (h0 : dnO sp lg a = 0) (h1 : dnK sp lg a = 1) (h2 : ab sp (dnI sp lg a) 1 = clsOf s) : okO sp lg a s = true := by unfold okO; rw [decide_eq_true h0, decide_eq_true h1, decide_eq_true h2]; rfl
theorem EJ {a s : Int} (h0 : dnO sp lg a = 0) (h1 : dnK sp lg a = 3) (h2 : ab lg (dnI sp lg a) 2 = s) : okO sp lg a s = true := by unfold okO; rw [decide_eq_true h0, decide_eq_true h1, decide_eq_true h2]; simp
theorem Gy (k0 : 0 <= k) (k1 : k < i) (i1 : i < os.length) (h : ab os k 0 = ab os i 0) : oiB (os.take i.toNat) (ab os i 0) = true := by
 unfold oiB oiI;rw [decide_eq_true_eq, rD];refine ⟨k.toNat, by rw [List.length_take]; omega, ?_⟩;unfold vZ; rw [Int.toNat_of_nonneg k0, nQ (by omega)]; exact lW h
theorem IQ {x : Int} (h : upto (fun j => !eqB (ab os j 0) x) k) (k1 : i <= k) (i0 : 0 <= i) : oiB (os.take i.toNat) x = false := by
 unfold oiB oiI;refine decide_eq_false (fun c => ?_);obtain ⟨m, m1, m2⟩ := rD.1 c;rw [List.length_take] at m1;have q := h m (by omega) (by omega);unfold vZ at m2;rw [nQ (by omega)] at m2;simp only at q;rw [m2] at q; cases q
end
end Go.V
namespace Go.V
def JP (es : List (List L)) : Prop := ∀ e ∈ es, ∃ k b : Int, e = [.v (.int .i64 k), .v (.int .i64 b)]
theorem l9 {k b : Int} {es : List (List L)} {n : Int} : cz ([.v (.int .i64 k), .v (.int .i64 b)] :: es) n = if k = n then some (0, .int .i64 b) else (cz es n).map fun p => (p.1 + 1, p.2) := rfl
theorem ia {k b : Int} {es : List (List L)} {n : Int} : dR ([.v (.int .i64 k), .v (.int .i64 b)] :: es) n = if k = n then b else dR es n := by
 unfold dR;rw [l9];by_cases c : k = n
 ·rw [if_pos c, if_pos c]
 ·rw [if_neg c, if_neg c];cases cz es n with
  | none => rfl
  | some p => obtain ⟨j, v⟩ := p; cases v <;> rfl
theorem AV {k b x : Int} {es : List (List L)} {n : Int} : fS ([.v (.int .i64 k), .v (.int .i64 b)] :: es) n (.v (.int .i64 x)) = if k = n then [.v (.int .i64 n), .v (.int .i64 x)] :: es else [.v (.int .i64 k), .v (.int .i64 b)] :: fS es n (.v (.int .i64 x)) := by
 unfold fS;rw [l9];by_cases c : k = n
 ·rw [if_pos c, if_pos c]; rfl
 ·rw [if_neg c, if_neg c];cases cz es n with
  | none => rfl
  | some p => rfl
theorem IG {x n : Int} : ∀ {es : List (List L)}, JP es -> JP (fS es n (.v (.int .i64 x))) /\ ∀ m, dR (fS es n (.v (.int .i64 x))) m = if m = n then x else dR es m
 | [], _ => by
   refine ⟨fun e he => ?_, fun m => ?_⟩
   ·have : e = [.v (.int .i64 n), .v (.int .i64 x)] := by simpa [fS, cz] using he
    exact ⟨n, x, this⟩
   ·show dR [[.v (.int .i64 n), .v (.int .i64 x)]] m = _;rw [ia];by_cases c : m = n
    ·rw [if_pos c.symm, if_pos c]
    ·rw [if_neg (fun e => c e.symm), if_neg c]
 | e :: es, h => by
   obtain ⟨k, b, rfl⟩ := h e (by simp);have h' : JP es := fun e he => h e (by simp [he])
   obtain ⟨a1, a2⟩ := IG (x := x) (n := n) h';rw [AV];by_cases c : k = n
   ·rw [if_pos c];refine ⟨fun e he => ?_, fun m => ?_⟩
    ·rcases List.mem_cons.1 he with rfl | he
     ·exact ⟨n, x, rfl⟩
     ·exact h' e he
    ·rw [ia, ia];by_cases d : m = n
     ·rw [if_pos d.symm, if_pos d]
     ·rw [if_neg (fun e => d e.symm), if_neg d, if_neg (fun e => d (by rw [<- e, c]))]
   ·rw [if_neg c];refine ⟨fun e he => ?_, fun m => ?_⟩
    ·rcases List.mem_cons.1 he with rfl | he
     ·exact ⟨k, b, rfl⟩
     ·exact a1 e he
    ·rw [ia, ia, a2 m];by_cases d : k = m
     ·rw [if_pos d, if_pos d, if_neg (fun e => c (d.trans e))]
     ·rw [if_neg d, if_neg d]
def huI (es : List (List L)) (a : Int) : List (List L) := fS es a (.v (.int .i64 (bu .add .i64 (dR es a) 1)))
structure r9 (es : List (List L)) (l : List Int) : Prop where
 wf : JP es
 c : ∀ m, dR es m = (l.count m : Int)
theorem J5 : r9 [] [] := ⟨(fun e he => by cases he), fun m => rfl⟩
theorem xg {es : List (List L)} {l : List Int} {a : Int} (h : r9 es l) (hl : l.length <= 1099511627776) : r9 (huI es a) (l ++ [a]) := by
 have q := IG (x := bu .add .i64 (dR es a) 1) (n := a) h.wf;refine ⟨q.1, fun m => ?_⟩;show dR (fS es a _) m = _;have b : l.count a <= l.length := List.count_le_length;have e := h.c a;rw [q.2 m, List.count_append, show bu .add .i64 (dR es a) 1 = dR es a + 1 from bG (by omega)];by_cases c : m = a
 ·subst c; rw [if_pos rfl, e]; simp
 ·rw [if_neg c, h.c m];have : [a].count m = 0 := List.count_eq_zero.2 (by simpa using c);rw [this]; rfl
def eK (l : List (List L)) (f : Nat) : Nat -> List Int
 | 0 => []
 | n + 1 => eK l f n ++ [ab l n f]
def q8 (ls : List (List L)) : Nat -> List Int
 | 0 => []
 | n + 1 => q8 ls n ++ eK (ay ls n 0) 0 (ay ls n 0).length
def kK (cs : List (List L)) : Nat -> List Int
 | 0 => []
 | n + 1 => kK cs n ++ q8 (ay cs n 0) (ay cs n 0).length
theorem b8 {l : List (List L)} {f : Nat} : ∀ n, (eK l f n).length = n
 | 0 => rfl
 | n + 1 => by rw [eK, List.length_append, b8 n]; rfl
theorem hY {l : List (List L)} {f : Nat} {i : Int} (h : 0 <= i) : eK l f (i + 1).toNat = eK l f i.toNat ++ [ab l i f] := by
 rw [show (i + 1).toNat = i.toNat + 1 from by omega, eK, Int.toNat_of_nonneg h]
theorem zz {l : List (List L)} {i : Int} (h : 0 <= i) : q8 l (i + 1).toNat = q8 l i.toNat ++ eK (ay l i 0) 0 (ay l i 0).length := by
 rw [show (i + 1).toNat = i.toNat + 1 from by omega, q8, Int.toNat_of_nonneg h]
theorem zy {l : List (List L)} {i : Int} (h : 0 <= i) : kK l (i + 1).toNat = kK l i.toNat ++ q8 (ay l i 0) (ay l i 0).length := by
 rw [show (i + 1).toNat = i.toNat + 1 from by omega, kK, Int.toNat_of_nonneg h]
theorem iJ {l : List (List L)} {f : Nat} {x : Int} : ∀ {n}, x ∈ eK l f n ↔ ∃ k : Nat, k < n /\ x = ab l k f
 | 0 => ⟨(fun h => by cases h), fun ⟨k, h, _⟩ => absurd h (Nat.not_lt_zero _)⟩
 | n + 1 => by
   rw [eK, List.mem_append, iJ, List.mem_singleton]
   constructor
   ·rintro (⟨k, h, e⟩ | e)
    ·exact ⟨k, by omega, e⟩
    ·exact ⟨n, by omega, e⟩
   ·rintro ⟨k, h, e⟩;by_cases c : k = n
    ·subst c; exact .inr e
    ·exact .inl ⟨k, by omega, e⟩
theorem sY {ls : List (List L)} {x : Int} : ∀ {n}, x ∈ q8 ls n ↔ ∃ k : Nat, k < n /\ x ∈ eK (ay ls k 0) 0 (ay ls k 0).length
 | 0 => ⟨(fun h => by cases h), fun ⟨k, h, _⟩ => absurd h (Nat.not_lt_zero _)⟩
 | n + 1 => by
   rw [q8, List.mem_append, sY]
   constructor
   ·rintro (⟨k, h, e⟩ | e)
    ·exact ⟨k, by omega, e⟩
    ·exact ⟨n, by omega, e⟩
   ·rintro ⟨k, h, e⟩;by_cases c : k = n
    ·subst c; exact .inr e
    ·exact .inl ⟨k, by omega, e⟩
theorem sX {cs : List (List L)} {x : Int} : ∀ {n}, x ∈ kK cs n ↔ ∃ k : Nat, k < n /\ x ∈ q8 (ay cs k 0) (ay cs k 0).length
 | 0 => ⟨(fun h => by cases h), fun ⟨k, h, _⟩ => absurd h (Nat.not_lt_zero _)⟩
 | n + 1 => by
   rw [kK, List.mem_append, sX]
   constructor
   ·rintro (⟨k, h, e⟩ | e)
    ·exact ⟨k, by omega, e⟩
    ·exact ⟨n, by omega, e⟩
   ·rintro ⟨k, h, e⟩;by_cases c : k = n
    ·subst c; exact .inr e
    ·exact .inl ⟨k, by omega, e⟩
theorem sD {ls : List (List L)} : ∀ n, n <= ls.length -> (q8 ls n).length <= aS (ls.take n)
 | 0, _ => Nat.zero_le _
 | n + 1, h => by
   have q := sD n (by omega : n <= ls.length);have c := pB (es := ls) (n := n) (j := 0) (by omega);unfold ao at c;rw [q8, List.length_append, b8, fX (by omega)]; omega
theorem fa {cs : List (List L)} : ∀ n, n <= cs.length -> (kK cs n).length <= aS (cs.take n)
 | 0, _ => Nat.zero_le _
 | n + 1, h => by
   have q := fa n (by omega : n <= cs.length);have c := pB (es := cs) (n := n) (j := 0) (by omega);have d := sD (ls := ay cs n 0) (ay cs n 0).length (Nat.le_refl _);rw [List.take_length] at d;unfold ao at c;rw [kK, List.length_append, fX (by omega)]; omega
theorem Cy {cs : List (List L)} {i k : Int} (i0 : 0 <= i) (i1 : i < cs.length) (k1 : k <= (ay cs i 0).length) : (kK cs i.toNat ++ q8 (ay cs i 0) k.toNat).length + aS ((ay cs i 0).drop k.toNat) <= aS cs := by
 have q := fa (cs := cs) i.toNat (by omega);have c := uo (es := cs) (n := i.toNat + 1);have d := fX (es := cs) (n := i.toNat) (by omega);have e := pB (es := cs) (n := i.toNat) (j := 0) (by omega);rw [Int.toNat_of_nonneg i0] at e;have f := sD (ls := ay cs i 0) k.toNat (by omega);have g : aS (ay cs i 0) = aS ((ay cs i 0).take k.toNat) + aS ((ay cs i 0).drop k.toNat) := by rw [<- db, List.take_append_drop]
 rw [List.length_append];unfold ao at e; omega
theorem xd {cs : List (List L)} {i k j : Int} (i0 : 0 <= i) (i1 : i < cs.length) (k0 : 0 <= k) (k1 : k < (ay cs i 0).length) (j0 : 0 <= j) (j1 : j <= (ay (ay cs i 0) k 0).length) : (kK cs i.toNat ++ q8 (ay cs i 0) k.toNat ++ eK (ay (ay cs i 0) k 0) 0 j.toNat).length <= aS cs := by
 have q := Cy i0 i1 (by omega : k <= (ay cs i 0).length);have e := pB (es := ay cs i 0) (n := k.toNat) (j := 0) (by omega);rw [Int.toNat_of_nonneg k0] at e;have d : cN ((ay cs i 0).getD k.toNat []) <= aS ((ay cs i 0).drop k.toNat) := by
  rw [List.drop_eq_getElem_cons (by omega)];rw [List.getD_eq_getElem?_getD, List.getElem?_eq_getElem (by omega)];simp [aS]
 rw [List.length_append, b8];unfold ao at e; omega
def hlB (sp lg : List (List L)) (a k : Int) : Bool := decide (dnK sp lg a = 1) && (decide (dnO sp lg a = 0) && (decide (k < 0) || decide (ab sp (dnI sp lg a) 1 = k)))
def jA (sp lg l : List (List L)) (k j : Int) : Bool := hlB sp lg (ab l j 0) k
def kA (sp lg ls : List (List L)) (k : Int) : Bool := bE (jA sp lg (ay ls k 0) k) (ay ls k 0).length
def iA (sp lg cs : List (List L)) (i : Int) : Bool := bE (kA sp lg (ay cs i 0)) (ay cs i 0).length
def qA (sp lg qs : List (List L)) (i : Int) : Bool := hlB sp lg (ab qs i 0) (ab qs i 1)
def sA (qs : List (List L)) (c i : Int) : Bool := decide (ab qs i 2 <= c)
def x6 (sp lg qs : List (List L)) (c i : Int) : Bool := qA sp lg qs i && sA qs c i
def CK (os cs qs fl : List (List L)) : List Int := kK cs cs.length ++ eK qs 0 qs.length ++ eK fl 0 fl.length ++ eK os 1 os.length
def vS (os cs qs fl : List (List L)) : List Int := eK os 1 os.length ++ kK cs cs.length ++ eK qs 0 qs.length ++ eK fl 0 fl.length
def DD (l : List Int) (lv : List (List L)) (i : Int) : Bool := decide (l.count (ab lv i 0) = 1)
def hoI (sp lg os cs b x qs : List (List L)) (c : Int) : Bool := bE (iA sp lg cs) cs.length && (bE (x6 sp lg qs c) qs.length && (bE (jA sp lg (ifL b x) (-1)) (ifL b x).length && bE (DD (CK os cs qs (ifL b x)) (laL sp lg)) (laL sp lg).length))
def hoS (sp lg os cs b x qs : List (List L)) : Bool := bE (iA sp lg cs) cs.length && (bE (qA sp lg qs) qs.length && (bE (jA sp lg (ifL b x) (-1)) (ifL b x).length && (decide ((vS os cs qs (ifL b x)).Nodup) && decide ((vS os cs qs (ifL b x)).length = (laL sp lg).length))))
section
variable {sp lg os cs b x qs fl es : List (List L)} {i k j c : Int}
theorem H3 (k0 : 0 <= k) (k1 : k < (ay cs i 0).length) (j0 : 0 <= j) (j1 : j < (ay (ay cs i 0) k 0).length) (h : hlB sp lg (ab (ay (ay cs i 0) k 0) j 0) k = false) : iA sp lg cs i = false :=
 aZ k0 k1 (aZ (p := jA sp lg (ay (ay cs i 0) k 0) k) j0 j1 h)
theorem FD (i0 : 0 <= i) (i1 : i < cs.length) (h : iA sp lg cs i = false) : hoI sp lg os cs b x qs c = false := by unfold hoI; rw [aZ i0 i1 h]; rfl
theorem zX (i0 : 0 <= i) (i1 : i < qs.length) (h : x6 sp lg qs c i = false) : hoI sp lg os cs b x qs c = false := by unfold hoI; rw [aZ i0 i1 h]; simp
theorem FE (i0 : 0 <= i) (i1 : i < (ifL b x).length) (h : hlB sp lg (ab (ifL b x) i 0) (-1) = false) : hoI sp lg os cs b x qs c = false := by unfold hoI; rw [aZ (p := jA sp lg (ifL b x) (-1)) i0 i1 h]; simp
theorem FF (i0 : 0 <= i) (i1 : i < (laL sp lg).length) (h : DD (CK os cs qs (ifL b x)) (laL sp lg) i = false) : hoI sp lg os cs b x qs c = false := by unfold hoI; rw [aZ i0 i1 h]; simp
theorem FG (i0 : 0 <= i) (i1 : i < cs.length) (h : iA sp lg cs i = false) : hoS sp lg os cs b x qs = false := by unfold hoS; rw [aZ i0 i1 h]; rfl
theorem FH (i0 : 0 <= i) (i1 : i < qs.length) (h : qA sp lg qs i = false) : hoS sp lg os cs b x qs = false := by unfold hoS; rw [aZ i0 i1 h]; simp
theorem FI (i0 : 0 <= i) (i1 : i < (ifL b x).length) (h : hlB sp lg (ab (ifL b x) i 0) (-1) = false) : hoS sp lg os cs b x qs = false := by unfold hoS; rw [aZ (p := jA sp lg (ifL b x) (-1)) i0 i1 h]; simp
theorem Jl (h : hlB sp lg (ab qs i 0) (ab qs i 1) = false) : x6 sp lg qs c i = false := by unfold x6 qA; rw [h]; rfl
theorem Jm (h : c < ab qs i 2) : x6 sp lg qs c i = false := by unfold x6 sA; rw [decide_eq_false (by omega), Bool.and_false]
theorem KQ (h : hlB sp lg (ab qs i 0) (ab qs i 1) = true) (g : ab qs i 2 <= c) : x6 sp lg qs c i = true := by unfold x6 qA sA; rw [h, decide_eq_true g]; rfl
structure GV (sp lg cs : List (List L)) (i : Int) (es : List (List L)) : Prop where
 ok : upto (iA sp lg cs) i
 c : r9 es (kK cs i.toNat)
structure GX (sp lg cs : List (List L)) (i k : Int) (es : List (List L)) : Prop where
 ok : upto (iA sp lg cs) i
 ok2 : upto (kA sp lg (ay cs i 0)) k
 c : r9 es (kK cs i.toNat ++ q8 (ay cs i 0) k.toNat)
structure GW (sp lg cs : List (List L)) (i k j : Int) (es : List (List L)) : Prop where
 ok : upto (iA sp lg cs) i
 ok2 : upto (kA sp lg (ay cs i 0)) k
 ok3 : upto (jA sp lg (ay (ay cs i 0) k 0) k) j
 c : r9 es (kK cs i.toNat ++ q8 (ay cs i 0) k.toNat ++ eK (ay (ay cs i 0) k 0) 0 j.toNat)
structure GY (sp lg cs qs : List (List L)) (t j : Int) (es : List (List L)) : Prop where
 ok : bE (iA sp lg cs) cs.length = true
 ok2 : upto (x6 sp lg qs t) j
 c : r9 es (kK cs cs.length ++ eK qs 0 j.toNat)
structure GU (sp lg cs qs fl : List (List L)) (t j : Int) (es : List (List L)) : Prop where
 ok : bE (iA sp lg cs) cs.length = true
 ok2 : bE (x6 sp lg qs t) qs.length = true
 ok3 : upto (jA sp lg fl (-1)) j
 c : r9 es (kK cs cs.length ++ eK qs 0 qs.length ++ eK fl 0 j.toNat)
structure E6 (sp lg os cs qs fl : List (List L)) (t j : Int) (es : List (List L)) : Prop where
 ok : bE (iA sp lg cs) cs.length = true
 ok2 : bE (x6 sp lg qs t) qs.length = true
 ok3 : bE (jA sp lg fl (-1)) fl.length = true
 c : r9 es (kK cs cs.length ++ eK qs 0 qs.length ++ eK fl 0 fl.length ++ eK os 1 j.toNat)
theorem Ka : GV sp lg cs 0 [] := ⟨aG, J5⟩
theorem Kc (h : GV sp lg cs i es) : GX sp lg cs i 0 es := ⟨h.ok, aG, by simpa [q8] using h.c⟩
theorem Kb (h : GX sp lg cs i k es) : GW sp lg cs i k 0 es := ⟨h.ok, h.ok2, aG, by simpa [eK] using h.c⟩
theorem HJ (h : GW sp lg cs i k j es) (i0 : 0 <= i) (i1 : i < cs.length) (k0 : 0 <= k) (k1 : k < (ay cs i 0).length) (j0 : 0 <= j) (j1 : j < (ay (ay cs i 0) k 0).length) (hc : ao cs <= 1073741824) (hh : hlB sp lg (ab (ay (ay cs i 0) k 0) j 0) k = true) :
 GW sp lg cs i k (j + 1) (huI es (ab (ay (ay cs i 0) k 0) j 0)) := by
 have l := xd (cs := cs) i0 i1 k0 k1 j0 (by omega);unfold ao at hc;exact ⟨h.ok, h.ok2, aw h.ok3 hh, by rw [hY j0, <- List.append_assoc]; exact xg h.c (by omega)⟩
theorem HK (h : GW sp lg cs i k j es) (k0 : 0 <= k) (j1 : j <= ((ay (ay cs i 0) k 0).length : Int)) (j2 : ((ay (ay cs i 0) k 0).length : Int) <= j) : GX sp lg cs i (k + 1) es := by
 refine ⟨h.ok, aw h.ok2 (aM h.ok3 j2), ?_⟩;have c := h.c;rw [show j.toNat = (ay (ay cs i 0) k 0).length from by omega, List.append_assoc, <- zz k0] at c;exact c
theorem HI (h : GX sp lg cs i k es) (i0 : 0 <= i) (k1 : k <= ((ay cs i 0).length : Int)) (k2 : ((ay cs i 0).length : Int) <= k) : GV sp lg cs (i + 1) es := by
 refine ⟨aw h.ok (aM h.ok2 k2), ?_⟩;have c := h.c;rw [show k.toNat = (ay cs i 0).length from by omega, <- zy i0] at c;exact c
theorem Kj (h : GV sp lg cs i es) (i1 : i <= cs.length) (i2 : (cs.length : Int) <= i) : GY sp lg cs qs c 0 es :=
 ⟨aM h.ok i2, aG, by have c := h.c; rw [show i.toNat = cs.length from by omega] at c; simpa [eK] using c⟩
theorem H2 (h : GY sp lg cs qs c j es) (j0 : 0 <= j) (j1 : j < qs.length) (hc : ao cs <= 1073741824) (hq : qs.length <= 1073741824) (hh : x6 sp lg qs c j = true) : GY sp lg cs qs c (j + 1) (huI es (ab qs j 0)) := by
 have l := fa (cs := cs) cs.length (Nat.le_refl _);rw [List.take_length] at l;unfold ao at hc;refine ⟨h.ok, aw h.ok2 hh, ?_⟩;rw [hY j0, <- List.append_assoc];refine xg h.c ?_;rw [List.length_append, b8]; omega
theorem J9 (h : GY sp lg cs qs c i es) (i1 : i <= qs.length) (i2 : (qs.length : Int) <= i) : GU sp lg cs qs fl c 0 es :=
 ⟨h.ok, aM h.ok2 i2, aG, by have c := h.c; rw [show i.toNat = qs.length from by omega] at c; simpa [eK] using c⟩
theorem HH (h : GU sp lg cs qs fl c j es) (j0 : 0 <= j) (j1 : j < fl.length) (hc : ao cs <= 1073741824) (hq : qs.length <= 1073741824) (hf : fl.length <= 30) (hh : hlB sp lg (ab fl j 0) (-1) = true) : GU sp lg cs qs fl c (j + 1) (huI es (ab fl j 0)) := by
 have l := fa (cs := cs) cs.length (Nat.le_refl _);rw [List.take_length] at l;unfold ao at hc;refine ⟨h.ok, h.ok2, aw h.ok3 hh, ?_⟩;rw [hY j0, <- List.append_assoc];refine xg h.c ?_;rw [List.length_append, List.length_append, b8, b8]; omega
theorem Kf (h : GU sp lg cs qs fl c i es) (i1 : i <= fl.length) (i2 : (fl.length : Int) <= i) : E6 sp lg os cs qs fl c 0 es :=
 ⟨h.ok, h.ok2, aM h.ok3 i2, by have c := h.c; rw [show i.toNat = fl.length from by omega] at c; simpa [eK] using c⟩
theorem HN (h : E6 sp lg os cs qs fl c j es) (j0 : 0 <= j) (j1 : j < os.length) (hc : ao cs <= 1073741824) (hq : qs.length <= 1073741824) (ho : os.length <= 1073741824) (hf : fl.length <= 30) : E6 sp lg os cs qs fl c (j + 1) (huI es (ab os j 1)) := by
 have l := fa (cs := cs) cs.length (Nat.le_refl _);rw [List.take_length] at l;unfold ao at hc;refine ⟨h.ok, h.ok2, h.ok3, ?_⟩;rw [hY j0, <- List.append_assoc];refine xg h.c ?_;rw [List.length_append, List.length_append, List.length_append, b8, b8, b8]; omega
structure Ds (sp lg os cs qs fl : List (List L)) (t i : Int) (es : List (List L)) : Prop where
 p : E6 sp lg os cs qs fl t os.length es
 ok : upto (DD (CK os cs qs fl) (laL sp lg)) i
theorem Kd (h : E6 sp lg os cs qs fl c i es) (i1 : i <= os.length) (i2 : (os.length : Int) <= i) : Ds sp lg os cs qs fl c 0 es := ⟨by rw [show (os.length : Int) = i from by omega]; exact h, aG⟩
theorem HL (h : Ds sp lg os cs qs fl c i es) (m : Int) : dR es m = ((CK os cs qs fl).count m : Int) := by
 have q := h.p.c.c m;rw [Int.toNat_natCast] at q; exact q
theorem HM (h : Ds sp lg os cs qs fl c i es) (e : dR es (ab (laL sp lg) i 0) = 1) : Ds sp lg os cs qs fl c (i + 1) es :=
 ⟨h.p, aw h.ok (by unfold DD; rw [HL h] at e; exact decide_eq_true (by omega))⟩
theorem Ke (h : Ds sp lg os cs qs (ifL b x) c i es) (i0 : 0 <= i) (i1 : i < (laL sp lg).length) (e : dR es (ab (laL sp lg) i 0) ≠ 1) : hoI sp lg os cs b x qs c = false :=
 FF i0 i1 (by unfold DD; rw [HL h] at e; exact decide_eq_false (by omega))
theorem FC (h : Ds sp lg os cs qs (ifL b x) c i es) (i2 : ((laL sp lg).length : Int) <= i) : hoI sp lg os cs b x qs c = true := by
 unfold hoI; rw [h.p.ok, h.p.ok2, h.p.ok3, aM h.ok i2]; rfl
end
end Go.V
namespace Go.V
structure Ff (os : List (List L)) (i : Int) (o : List (List L)) : Prop where
 e : o = dX (eK os 1 i.toNat)
structure G8 (sp lg os cs : List (List L)) (i : Int) (o : List (List L)) : Prop where
 ok : upto (iA sp lg cs) i
 e : o = dX (eK os 1 os.length ++ kK cs i.toNat)
structure G9 (sp lg os cs : List (List L)) (i k : Int) (o : List (List L)) : Prop where
 ok : upto (iA sp lg cs) i
 ok2 : upto (kA sp lg (ay cs i 0)) k
 e : o = dX (eK os 1 os.length ++ (kK cs i.toNat ++ q8 (ay cs i 0) k.toNat))
structure Fg (sp lg os cs : List (List L)) (i k j : Int) (o : List (List L)) : Prop where
 ok : upto (iA sp lg cs) i
 ok2 : upto (kA sp lg (ay cs i 0)) k
 ok3 : upto (jA sp lg (ay (ay cs i 0) k 0) k) j
 e : o = dX (eK os 1 os.length ++ (kK cs i.toNat ++ q8 (ay cs i 0) k.toNat ++ eK (ay (ay cs i 0) k 0) 0 j.toNat))
structure Fh (sp lg os cs qs : List (List L)) (j : Int) (o : List (List L)) : Prop where
 ok : bE (iA sp lg cs) cs.length = true
 ok2 : upto (qA sp lg qs) j
 e : o = dX (eK os 1 os.length ++ kK cs cs.length ++ eK qs 0 j.toNat)
structure Fi (sp lg os cs qs fl : List (List L)) (j : Int) (o : List (List L)) : Prop where
 ok : bE (iA sp lg cs) cs.length = true
 ok2 : bE (qA sp lg qs) qs.length = true
 ok3 : upto (jA sp lg fl (-1)) j
 e : o = dX (eK os 1 os.length ++ kK cs cs.length ++ eK qs 0 qs.length ++ eK fl 0 j.toNat)
structure Cj (sp lg os cs qs fl : List (List L)) (j : Int) (o : List (List L)) : Prop where
 ok : bE (iA sp lg cs) cs.length = true
 ok2 : bE (qA sp lg qs) qs.length = true
 ok3 : bE (jA sp lg fl (-1)) fl.length = true
 e : o = dX (vS os cs qs fl)
 nd : ((vS os cs qs fl).take j.toNat).Nodup
section
variable {sp lg os cs b x qs fl o : List (List L)} {i k j : Int}
theorem KS : Ff os 0 [] := ⟨rfl⟩
theorem KT (h : Ff os i o) : o.length = i.toNat := by rw [h.e, bC, b8]
theorem Js (h : Ff os i o) (i0 : 0 <= i) : Ff os (i + 1) (o ++ [[.v (.int .i64 (ab os i 1))]]) := ⟨by rw [hY i0, dq, <- h.e]; rfl⟩
theorem KU (h : Ff os i o) (i1 : i <= os.length) (i2 : (os.length : Int) <= i) : G8 sp lg os cs 0 o := ⟨aG, by rw [h.e, show i.toNat = os.length from by omega]; simp [kK]⟩
theorem KV (h : G8 sp lg os cs i o) : G9 sp lg os cs i 0 o := ⟨h.ok, aG, by rw [h.e]; simp [q8]⟩
theorem KW (h : G9 sp lg os cs i k o) : Fg sp lg os cs i k 0 o := ⟨h.ok, h.ok2, aG, by rw [h.e]; simp [eK]⟩
theorem KX (h : Fg sp lg os cs i k j o) (i0 : 0 <= i) (i1 : i < cs.length) (k0 : 0 <= k) (k1 : k < (ay cs i 0).length) (j0 : 0 <= j) (j1 : j <= (ay (ay cs i 0) k 0).length) (hc : ao cs <= 1073741824) (ho : os.length <= 1073741824) : o.length <= 2147483648 := by
 have l := xd (cs := cs) i0 i1 k0 k1 j0 j1;unfold ao at hc;rw [h.e, bC, List.length_append, b8]; omega
theorem Jv (h : Fg sp lg os cs i k j o) (j0 : 0 <= j) (hh : hlB sp lg (ab (ay (ay cs i 0) k 0) j 0) k = true) : Fg sp lg os cs i k (j + 1) (o ++ [[.v (.int .i64 (ab (ay (ay cs i 0) k 0) j 0))]]) :=
 ⟨h.ok, h.ok2, aw h.ok3 hh, by rw [hY j0, <- List.append_assoc (kK cs i.toNat ++ q8 (ay cs i 0) k.toNat), <- List.append_assoc (eK os 1 os.length), dq, <- h.e]; rfl⟩
theorem Ju (h : Fg sp lg os cs i k j o) (k0 : 0 <= k) (j1 : j <= ((ay (ay cs i 0) k 0).length : Int)) (j2 : ((ay (ay cs i 0) k 0).length : Int) <= j) : G9 sp lg os cs i (k + 1) o := by
 refine ⟨h.ok, aw h.ok2 (aM h.ok3 j2), ?_⟩;rw [h.e, show j.toNat = (ay (ay cs i 0) k 0).length from by omega, List.append_assoc (kK cs i.toNat), <- zz k0]
theorem Jt (h : G9 sp lg os cs i k o) (i0 : 0 <= i) (k1 : k <= ((ay cs i 0).length : Int)) (k2 : ((ay cs i 0).length : Int) <= k) : G8 sp lg os cs (i + 1) o := by
 refine ⟨aw h.ok (aM h.ok2 k2), ?_⟩;rw [h.e, show k.toNat = (ay cs i 0).length from by omega, <- zy i0]
theorem KY (h : G8 sp lg os cs i o) (i1 : i <= cs.length) (i2 : (cs.length : Int) <= i) : Fh sp lg os cs qs 0 o := ⟨aM h.ok i2, aG, by rw [h.e, show i.toNat = cs.length from by omega]; simp [eK]⟩
theorem KZ (h : Fh sp lg os cs qs j o) (j1 : j <= qs.length) (hc : ao cs <= 1073741824) (ho : os.length <= 1073741824) (hq : qs.length <= 1073741824) : o.length <= 4294967296 := by
 have l := fa (cs := cs) cs.length (Nat.le_refl _);rw [List.take_length] at l;unfold ao at hc;rw [h.e, bC, List.length_append, List.length_append, b8, b8]; omega
theorem Jw (h : Fh sp lg os cs qs j o) (j0 : 0 <= j) (hh : hlB sp lg (ab qs j 0) (ab qs j 1) = true) : Fh sp lg os cs qs (j + 1) (o ++ [[.v (.int .i64 (ab qs j 0))]]) :=
 ⟨h.ok, aw h.ok2 hh, by rw [hY j0, <- List.append_assoc, dq, <- h.e]; rfl⟩
theorem K0 (h : Fh sp lg os cs qs i o) (i1 : i <= qs.length) (i2 : (qs.length : Int) <= i) : Fi sp lg os cs qs fl 0 o := ⟨h.ok, aM h.ok2 i2, aG, by rw [h.e, show i.toNat = qs.length from by omega]; simp [eK]⟩
theorem K1 (h : Fi sp lg os cs qs fl j o) (j1 : j <= fl.length) (hc : ao cs <= 1073741824) (ho : os.length <= 1073741824) (hq : qs.length <= 1073741824) (hf : fl.length <= 30) : o.length <= 4294967400 := by
 have l := fa (cs := cs) cs.length (Nat.le_refl _);rw [List.take_length] at l;unfold ao at hc;rw [h.e, bC, List.length_append, List.length_append, List.length_append, b8, b8, b8]; omega
theorem Jx (h : Fi sp lg os cs qs fl j o) (j0 : 0 <= j) (hh : hlB sp lg (ab fl j 0) (-1) = true) : Fi sp lg os cs qs fl (j + 1) (o ++ [[.v (.int .i64 (ab fl j 0))]]) :=
 ⟨h.ok, h.ok2, aw h.ok3 hh, by rw [hY j0, <- List.append_assoc, dq, <- h.e]; rfl⟩
theorem K2 (h : Fi sp lg os cs qs fl i o) (i1 : i <= fl.length) (i2 : (fl.length : Int) <= i) : Cj sp lg os cs qs fl 0 o :=
 ⟨h.ok, h.ok2, aM h.ok3 i2, by rw [h.e, show i.toNat = fl.length from by omega]; rfl, List.nodup_nil⟩
theorem Jy (h : Cj sp lg os cs qs fl j o) (hc : ao cs <= 1073741824) (ho : os.length <= 1073741824) (hq : qs.length <= 1073741824) (hf : fl.length <= 30) : o.length <= 4294967400 := by
 have l := fa (cs := cs) cs.length (Nat.le_refl _);rw [List.take_length] at l;unfold ao at hc;rw [h.e, bC]; unfold vS; rw [List.length_append, List.length_append, List.length_append, b8, b8, b8]; omega
theorem uW {l : List Int} {n : Nat} : (dX l).take n = dX (l.take n) := by unfold dX; rw [List.map_take]
theorem tq {l : List Int} {i : Int} (h0 : 0 <= i) (h : i < (dX l).length) : ∃ x, l[i.toNat]? = some x /\ ab (dX l) i 0 = x := by
 rw [bC] at h;have q := lC (l := l) (k := i.toNat) (by omega);rw [Int.toNat_of_nonneg h0] at q;exact ⟨_, List.getElem?_eq_getElem (by omega), q⟩
theorem JA (h : Cj sp lg os cs qs fl j o) (j0 : 0 <= j) (j1 : j < o.length) (hh : hasB (o.take j.toNat) (ab o j 0) = false) : Cj sp lg os cs qs fl (j + 1) o := by
 refine ⟨h.ok, h.ok2, h.ok3, h.e, ?_⟩;have e := h.e;rw [e] at j1 hh;obtain ⟨v, q1, q2⟩ := tq j0 j1;rw [uW, q2] at hh;have nm := nR hh;rw [show (j + 1).toNat = j.toNat + 1 from by omega, List.take_succ, q1];exact fc h.nd nm
theorem K3 (h : Cj sp lg os cs qs (ifL b x) j o) (j0 : 0 <= j) (j1 : j < o.length) (hh : hasB (o.take j.toNat) (ab o j 0) = true) : hoS sp lg os cs b x qs = false := by
 have e := h.e;rw [e] at j1 hh;obtain ⟨v, q1, q2⟩ := tq j0 j1;rw [uW, q2, iG] at hh;have : ¬ (vS os cs qs (ifL b x)).Nodup := fun nd => by
  have lt : j.toNat < (vS os cs qs (ifL b x)).length := by rw [bC] at j1; omega
  have sp := List.take_append_drop j.toNat (vS os cs qs (ifL b x));rw [List.drop_eq_getElem_cons lt] at sp;have gv : (vS os cs qs (ifL b x))[j.toNat] = v := by rw [List.getElem?_eq_getElem lt] at q1; exact Option.some.inj q1
  rw [gv] at sp;exact dup sp.symm hh nd
 unfold hoS; rw [decide_eq_false this]; simp
theorem GJ (h : Cj sp lg os cs qs (ifL b x) j o) (j2 : (o.length : Int) <= j) : decide ((o.length : Int) = (laL sp lg).length) = hoS sp lg os cs b x qs := by
 have e := h.e;have nd := h.nd;have l : (vS os cs qs (ifL b x)).length = o.length := by rw [e, bC]
 rw [List.take_of_length_le (by omega)] at nd;unfold hoS;rw [h.ok, h.ok2, h.ok3, decide_eq_true nd, l];simp only [Bool.true_and];exact cR (by rw [decide_eq_true_eq, decide_eq_true_eq]; omega)
def Hb (l : List Int) : Prop := ∀ v ∈ l, -9223372036854775808 <= v /\ v <= 9223372036854775807
theorem sQ {l m : List Int} (h : Hb l) (g : Hb m) : Hb (l ++ m) := fun v hv => by
 rcases List.mem_append.1 hv with q | q
 ·exact h v q
 ·exact g v q
theorem sR {fs : List Ty} {l : List (List L)} {f : Nat} (h : Rw fs l) (hf : fs[f]? = some tI) : Hb (eK l f l.length) := fun v hv => by
 obtain ⟨n, n1, rfl⟩ := iJ.1 hv;exact rJ h hf (by omega)
theorem F1 {ls : List (List L)} (h : Rw [.sl [tI]] ls) : Hb (q8 ls ls.length) := fun v hv => by
 obtain ⟨n, n1, q⟩ := sY.1 hv;exact sR (fs := [tI]) (Rw.sub (fs := [.sl [tI]]) h (by omega) rfl) rfl v q
theorem FZ {cs : List (List L)} (h : Rw [.sl [.sl [tI]]] cs) : Hb (kK cs cs.length) := fun v hv => by
 obtain ⟨n, n1, q⟩ := sX.1 hv;exact F1 (Rw.sub (fs := [.sl [.sl [tI]]]) h (by omega) rfl) v q
theorem Jz (N : sd sp lg os cs b x qs) (h : Cj sp lg os cs qs (ifL b x) j o) (n : Nat) : Rw [tI] (o.take n) := by
 have l := Jy h N.cl N.ol N.ql vX;refine Rw.take ?_ n;rw [h.e] at l ⊢;rw [bC] at l;refine lD ?_ (by omega);unfold vS;exact sQ (sQ (sQ (sR N.ow rfl) (FZ N.cw)) (sR N.qw rfl)) (sR (Aj N.m) rfl)
theorem zW {a k : Int} (hl : layOk sp lg = true) (h : hlB sp lg a k = true) : nD sp lg a = true := by
 unfold hlB at h;simp only [Bool.and_eq_true, decide_eq_true_eq] at h;exact (xH hl).2 ⟨h.2.1, .inl h.1⟩
theorem IV {a s : Int} (hl : layOk sp lg = true) (h : okO sp lg a s = true) : nD sp lg a = true := by
 unfold okO at h;simp only [Bool.and_eq_true, Bool.or_eq_true, decide_eq_true_eq] at h;exact (xH hl).2 ⟨h.1, h.2.elim (fun q => .inl q.1) (fun q => .inr q.1)⟩
def Gn (sp lg : List (List L)) : List Int := Eu sp lg 512
theorem Ie (hl : layOk sp lg = true) : laL sp lg = dX (Gn sp lg) := by unfold laL Gn; rw [if_pos hl, pG]
theorem CU (hl : layOk sp lg = true) {a : Int} : a ∈ Gn sp lg ↔ nD sp lg a = true := by
 unfold Gn;rw [kn]
 constructor
 ·exact fun h => h.2.2
 ·intro h;have F := Hc hl;have v := Ev F hl h;have r : a ∈ FM sp lg := xJ.2 v;refine ⟨?_, ?_, h⟩
  ·rcases v with ⟨i, k, i1, k1, _, e⟩ | ⟨j, j1, e⟩
   ·have ae := gQ (s := (k : Int)) (F.s i i1) (by omega) (by omega);have t := fP (F.s i i1); omega
   ·have t := eV (F.l j j1); omega
  ·rcases v with ⟨i, k, i1, k1, _, e⟩ | ⟨j, j1, e⟩
   ·have ae := gQ (s := (k : Int)) (F.s i i1) (by omega) (by omega);have t := fP (F.s i i1); omega
   ·have t := eV (F.l j j1); have b := eW t.1; omega
theorem Gr : (Gn sp lg).Nodup := (wu 512).imp (fun h => by omega)
theorem xS : (CK os cs qs fl).Perm (vS os cs qs fl) := by
 unfold CK vS;have q := List.perm_append_comm (l₁ := kK cs cs.length ++ eK qs 0 qs.length ++ eK fl 0 fl.length) (l₂ := eK os 1 os.length);refine q.trans ?_;rw [List.append_assoc, List.append_assoc, List.append_assoc]
theorem A0 {l m : List Int} (hm : m.Nodup) (hs : ∀ v ∈ l, v ∈ m) : (∀ v ∈ m, l.count v = 1) ↔ l.Nodup /\ l.length = m.length := by
 constructor
 ·intro h;have nd : l.Nodup := List.nodup_iff_count.2 (fun v => by
   by_cases c : v ∈ l
   ·rw [h v (hs v c)]; exact Nat.le_refl _
   ·rw [List.count_eq_zero.2 c]; omega)
  refine ⟨nd, ?_⟩;have p : l.Perm m := by
   rw [List.perm_ext_iff_of_nodup nd hm];intro v;refine ⟨hs v, fun hv => ?_⟩;have := h v hv;exact List.count_pos_iff.1 (by omega)
  exact p.length_eq
 ·rintro ⟨nd, len⟩ v hv;have hv' : v ∈ l := by
   by_cases c : v ∈ l
   ·exact c
   ·exfalso;have q := List.Nodup.length_le_of_subset (l₁ := v :: l) (l₂ := m) (List.nodup_cons.2 ⟨c, nd⟩) (fun y hy => by
     rcases List.mem_cons.1 hy with rfl | hy
     ·exact hv
     ·exact hs y hy)
    rw [List.length_cons] at q; omega
  have p1 := List.nodup_iff_count.1 nd v;have p2 := List.count_pos_iff.2 hv';omega
theorem de {p : Int -> Bool} {n : Nat} (h : bE p n = true) : ∀ k : Nat, k < n -> p k = true := fun k hk => cB.1 h k (by omega) (by omega)
theorem C9 {c : Int} : bE (x6 sp lg qs c) qs.length = (bE (qA sp lg qs) qs.length && bE (sA qs c) qs.length) := by
 refine cR ?_;rw [Bool.and_eq_true, cB, cB, cB];unfold upto x6
 constructor
 ·intro h;refine ⟨fun j h0 h1 => ?_, fun j h0 h1 => ?_⟩
  ·have := h j h0 h1; rw [Bool.and_eq_true] at this; exact this.1
  ·have := h j h0 h1; rw [Bool.and_eq_true] at this; exact this.2
 ·rintro ⟨h, g⟩ j h0 h1;rw [h j h0 h1, g j h0 h1]; rfl
theorem zY {nx c : Int} (hl : layOk sp lg = true) (ho : objOk sp lg os cs nx = true) : hoI sp lg os cs b x qs c = (hoS sp lg os cs b x qs && bE (sA qs c) qs.length) := by
 unfold hoI hoS;rw [C9];by_cases h1 : bE (iA sp lg cs) cs.length = true
 case neg => rw [Bool.not_eq_true] at h1; rw [h1]; rfl
 by_cases h2 : bE (qA sp lg qs) qs.length = true
 case neg => rw [Bool.not_eq_true] at h2; rw [h2]; simp
 by_cases h3 : bE (jA sp lg (ifL b x) (-1)) (ifL b x).length = true
 case neg => rw [Bool.not_eq_true] at h3; rw [h3]; simp
 have sub : ∀ v ∈ CK os cs qs (ifL b x), v ∈ Gn sp lg := by
  intro v hv;rw [CU hl];unfold CK at hv;rw [List.mem_append, List.mem_append, List.mem_append] at hv;rcases hv with ((hv | hv) | hv) | hv
  ·obtain ⟨i, i1, hv⟩ := sX.1 hv;obtain ⟨k, k1, hv⟩ := sY.1 hv;obtain ⟨j, j1, rfl⟩ := iJ.1 hv;have q1 := de h1 i i1;have q2 := de q1 k k1;have q3 := de q2 j j1;exact zW hl q3
  ·obtain ⟨j, j1, rfl⟩ := iJ.1 hv;exact zW hl (de h2 j j1)
  ·obtain ⟨j, j1, rfl⟩ := iJ.1 hv;exact zW hl (de h3 j j1)
  ·obtain ⟨j, j1, rfl⟩ := iJ.1 hv;have q := de ho j j1;unfold ra at q;simp only [Bool.and_eq_true] at q;exact IV hl q.2.2.2.2
 have key := A0 Gr sub;have e1 : bE (DD (CK os cs qs (ifL b x)) (laL sp lg)) (laL sp lg).length = (decide (vS os cs qs (ifL b x)).Nodup && decide ((vS os cs qs (ifL b x)).length = (laL sp lg).length)) := by
  refine cR ?_;rw [Bool.and_eq_true, decide_eq_true_eq, decide_eq_true_eq, <- xS.nodup_iff, <- xS.length_eq, Ie hl, bC, <- key]
  constructor
  ·intro h v hv;obtain ⟨n, n1, rfl⟩ := List.mem_iff_getElem.1 hv;have q := de h n n1;unfold DD at q;rw [lC n1, decide_eq_true_eq] at q;exact q
  ·intro h;rw [cB];intro j h0 h1;have n1 : j.toNat < (Gn sp lg).length := by omega
   have q := lC n1;rw [Int.toNat_of_nonneg h0] at q;unfold DD;rw [q, decide_eq_true_eq];exact h _ (List.getElem_mem n1)
 rw [h1, h2, h3, e1];simp only [Bool.true_and];exact Bool.and_comm _ _
end
end Go.V
namespace Go.V
theorem xy {n : Int} : ∀ {es : List (List L)}, Ha es -> ∀ m, m ∈ ga (fS es n (.v (.bool true))) ↔ m ∈ ga es \/ m = n
 | [], _, m => by
   show m ∈ ga [[.v (.int .i64 n), .v (.bool true)]] ↔ _;simp [ga, JU]
 | e :: es, h, m => by
   obtain ⟨k, b, rfl⟩ := h e (by simp);have h' : Ha es := fun e he => h e (by simp [he])
   have ih := xy (n := n) h' m;rw [xL];by_cases c : k = n
   ·rw [if_pos c]; subst c;show m ∈ k :: ga es ↔ m ∈ k :: ga es \/ m = k;simp only [List.mem_cons]
    constructor
    ·exact fun h => .inl h
    ·rintro (h | h)
     ·exact h
     ·exact .inl h
   ·rw [if_neg c];show m ∈ k :: ga (fS es n (.v (.bool true))) ↔ m ∈ k :: ga es \/ m = n;simp only [List.mem_cons, ih, or_assoc]
structure od (es : List (List L)) (l : List Int) : Prop where
 s : jc es l
 k : ∀ m, m ∈ ga es ↔ m ∈ l
theorem IY : od [] [] := ⟨wz, fun m => Iff.rfl⟩
theorem A5 {es : List (List L)} {l : List Int} {n : Int} (h : od es l) : od (fS es n (.v (.bool true))) (l ++ [n]) :=
 ⟨oa h.s, fun m => by rw [xy h.s.wf, h.k, List.mem_append, List.mem_singleton]⟩
def nZ (sp : List (List L)) (i : Int) : Bool := !(decide (0 < i) && decide (ab sp i 0 <= ab sp (i - 1) 0))
def Fz (es : List (List L)) (p : Int) : Bool := decide ((fpg es p).length = 1)
def sV (es lg : List (List L)) (i : Int) : Bool := nZ lg i && bE (fun k => Fz es (ab lg i 0 + k)) (ab lg i 1).toNat
def ownB (sp lg : List (List L)) (p : Int) : Bool := decide (p ∈ rc sp lg)
def mapB (es : List (List L)) (p : Int) : Bool := decide (peM es p ≠ 0)
def rA (es fr sp lg : List (List L)) (p : Int) : Bool := (mapB es p == ownB sp lg p) && !(rhB fr p == ownB sp lg p)
def AZ (es sp lg : List (List L)) : Bool := decide (∀ p ∈ rc sp lg, p < es.length)
def pM (sp : List (List L)) (i j : Int) : Bool := mshB (ab sp i 0) (ab sp i 1) (ab sp i 2) (ab sp j 0) (ab sp j 1) (ab sp j 2)
def yR (es sp : List (List L)) (i j : Int) : Bool := !decide (peF es (ab sp i 0) = peF es (ab sp j 0)) || pM sp i j
def Cb (es sp : List (List L)) (i : Int) : Bool := bE (yR es sp i) i.toNat
def AH (es sp : List (List L)) (i k : Int) : Bool := decide (spI sp (ab (fpg es (ab sp i 0)) k 0) = i) || (decide (0 <= spI sp (ab (fpg es (ab sp i 0)) k 0)) && pM sp i (spI sp (ab (fpg es (ab sp i 0)) k 0)))
def msA (es sp : List (List L)) (i : Int) : Bool := bE (AH es sp i) (fpg es (ab sp i 0)).length
def pgI (es fr sp lg : List (List L)) : Bool := bE (nZ sp) sp.length && (bE (sV es lg) lg.length && (bE (rA es fr sp lg) es.length && (AZ es sp lg && bE (Cb es sp) sp.length)))
def pgS (es fr sp lg : List (List L)) : Bool := bE (nZ sp) sp.length && (bE (sV es lg) lg.length && (AZ es sp lg && bE (rA es fr sp lg) es.length))
def smS (es sp : List (List L)) : Bool := bE (msA es sp) sp.length
section
variable {es fr sp lg m : List (List L)} {i j k p : Int} {vs : List Int}
theorem yf (h : 0 < i) (g : ab sp i 0 <= ab sp (i - 1) 0) : nZ sp i = false := by unfold nZ; rw [decide_eq_true h, decide_eq_true g]; rfl
theorem yg (h : i <= 0) : nZ sp i = true := by unfold nZ; rw [decide_eq_false (by omega)]; rfl
theorem yh (h : ab sp (i - 1) 0 < ab sp i 0) : nZ sp i = true := by unfold nZ; rw [decide_eq_false (p := ab sp i 0 <= _) (by omega)]; simp
theorem I1 (i0 : 0 <= i) (i1 : i < sp.length) (h : nZ sp i = false) : pgI es fr sp lg = false := by unfold pgI; rw [aZ i0 i1 h]; rfl
theorem EP (i0 : 0 <= i) (i1 : i < lg.length) (h : sV es lg i = false) : pgI es fr sp lg = false := by unfold pgI; rw [aZ i0 i1 h]; simp
theorem EQ (i0 : 0 <= i) (i1 : i < es.length) (h : rA es fr sp lg i = false) : pgI es fr sp lg = false := by unfold pgI; rw [aZ i0 i1 h]; simp
theorem I2 (h : AZ es sp lg = false) : pgI es fr sp lg = false := by unfold pgI; rw [h]; simp
theorem I3 (i0 : 0 <= i) (i1 : i < sp.length) (h : Cb es sp i = false) : pgI es fr sp lg = false := by unfold pgI; rw [aZ i0 i1 h]; simp
theorem KE {a b c d : Int} (h1 : upto (nZ sp) a) (g1 : (sp.length : Int) <= a) (h2 : upto (sV es lg) b) (g2 : (lg.length : Int) <= b) (h3 : upto (rA es fr sp lg) c) (g3 : (es.length : Int) <= c) (h4 : AZ es sp lg = true) (h5 : upto (Cb es sp) d) (g5 : (sp.length : Int) <= d) : pgI es fr sp lg = true := by
 unfold pgI; rw [aM h1 g1, aM h2 g2, aM h3 g3, h4, aM h5 g5]; rfl
theorem I9 (i0 : 0 <= i) (i1 : i < sp.length) (h : nZ sp i = false) : pgS es fr sp lg = false := by unfold pgS; rw [aZ i0 i1 h]; rfl
theorem ER (i0 : 0 <= i) (i1 : i < lg.length) (h : sV es lg i = false) : pgS es fr sp lg = false := by unfold pgS; rw [aZ i0 i1 h]; simp
theorem ES (i0 : 0 <= i) (i1 : i < es.length) (h : rA es fr sp lg i = false) : pgS es fr sp lg = false := by unfold pgS; rw [aZ i0 i1 h]; simp
theorem Ja (h : AZ es sp lg = false) : pgS es fr sp lg = false := by unfold pgS; rw [h]; simp
theorem KG {a b c : Int} (h1 : upto (nZ sp) a) (g1 : (sp.length : Int) <= a) (h2 : upto (sV es lg) b) (g2 : (lg.length : Int) <= b) (h3 : upto (rA es fr sp lg) c) (g3 : (es.length : Int) <= c) (h4 : AZ es sp lg = true) : pgS es fr sp lg = true := by
 unfold pgS; rw [aM h1 g1, aM h2 g2, aM h3 g3, h4]; rfl
theorem Eo (h : nZ lg i = false) : sV es lg i = false := by unfold sV; rw [h]; rfl
theorem Ep (k0 : 0 <= k) (k1 : k < ab lg i 1) (h : (fpg es (ab lg i 0 + k)).length ≠ 1) : sV es lg i = false := by
 unfold sV;rw [aZ (i := k) (n := (ab lg i 1).toNat) k0 (by omega) (show Fz es (ab lg i 0 + k) = false from decide_eq_false h), Bool.and_false]
theorem Ih (h : nZ lg i = true) (g : upto (fun k => Fz es (ab lg i 0 + k)) k) (k1 : ab lg i 1 <= k) (n0 : 0 <= ab lg i 1) : sV es lg i = true := by
 unfold sV; rw [h, aM g (by omega)]; rfl
theorem D5 (g : upto (fun k => Fz es (ab lg i 0 + k)) k) (h : (fpg es (ab lg i 0 + k)).length = 1) : upto (fun k => Fz es (ab lg i 0 + k)) (k + 1) := aw g (decide_eq_true h)
structure G7 (es sp lg : List (List L)) (j : Int) (m : List (List L)) : Prop where
 ok : upto (sV es lg) j
 o : od m (fD sp sp.length ++ fC lg j.toNat)
structure G6 (es sp lg : List (List L)) (j k : Int) (m : List (List L)) : Prop where
 ok : upto (sV es lg) j
 h : nZ lg j = true
 g : upto (fun k => Fz es (ab lg j 0 + k)) k
 o : od m (fD sp sp.length ++ fC lg j.toNat ++ iN (ab lg j 0) k.toNat)
theorem KF (h : od m (fD sp i.toNat)) (i1 : i <= sp.length) (i2 : (sp.length : Int) <= i) : G7 es sp lg 0 m := ⟨aG, by rw [show i.toNat = sp.length from by omega] at h; simpa [fC] using h⟩
theorem I4 (h : G7 es sp lg j m) (g : nZ lg j = true) : G6 es sp lg j (ab lg j 0 - ab lg j 0) m := by
 rw [Int.sub_self]; exact ⟨h.ok, g, aG, by simpa [iN] using h.o⟩
theorem I6 (h : G6 es sp lg j (p - ab lg j 0) m) (p0 : ab lg j 0 <= p) (g : (fpg es p).length = 1) : G6 es sp lg j (p + 1 - ab lg j 0) (fS m p (.v (.bool true))) := by
 have e : ab lg j 0 + (p - ab lg j 0) = p := by omega
 rw [show p + 1 - ab lg j 0 = (p - ab lg j 0) + 1 from by omega];refine ⟨h.ok, h.h, D5 h.g (by rw [e]; exact g), ?_⟩;rw [pT (by omega), e, <- List.append_assoc];exact A5 h.o
theorem I5 (p0 : ab lg j 0 <= p) (p1 : p < ab lg j 0 + ab lg j 1) (h : (fpg es p).length ≠ 1) : sV es lg j = false :=
 Ep (k := p - ab lg j 0) (by omega) (by omega) (by rw [show ab lg j 0 + (p - ab lg j 0) = p from by omega]; exact h)
theorem I7 (h : G6 es sp lg j (p - ab lg j 0) m) (j0 : 0 <= j) (n0 : 0 <= ab lg j 1) (p1 : p <= ab lg j 0 + ab lg j 1) (p2 : ab lg j 0 + ab lg j 1 <= p) : G7 es sp lg (j + 1) m := by
 refine ⟨aw h.ok (Ih h.h h.g (by omega) n0), ?_⟩;have o := h.o;rw [show (p - ab lg j 0).toNat = (ab lg j 1).toNat from by omega, List.append_assoc, <- jG j0] at o;exact o
theorem GC (h : G7 es sp lg j m) (j1 : j <= lg.length) (j2 : (lg.length : Int) <= j) : od m (rc sp lg) := by
 have o := h.o; rw [show j.toNat = lg.length from by omega] at o; exact o
theorem IZ (h : od m (rc sp lg)) (p : Int) : mgbI m p = ownB sp lg p := by
 refine cR ?_;unfold ownB; rw [h.s.at_, decide_eq_true_eq]
theorem D2 (h : mapB es p ≠ ownB sp lg p) : rA es fr sp lg p = false := by unfold rA; rw [beq_eq_false_iff_ne.2 h]; rfl
theorem D3 (h : rhB fr p = ownB sp lg p) : rA es fr sp lg p = false := by unfold rA; rw [h]; simp
theorem Hw (h : mapB es p = ownB sp lg p) (g : rhB fr p ≠ ownB sp lg p) : rA es fr sp lg p = true := by unfold rA; rw [h, beq_eq_false_iff_ne.2 g]; simp
theorem Fw (h : mapB es p = rhB fr p) (g : mapB es p = ownB sp lg p) : rA es fr sp lg p = false := D3 (by rw [<- h, g])
theorem Hy (h : mapB es p ≠ rhB fr p) (g : mapB es p = ownB sp lg p) : rA es fr sp lg p = true := Hw g (fun e => h (by rw [g, e]))
theorem Iz (p0 : 0 <= p) (p1 : p < es.length) : bQ .neq (ab es p 0) 0 = mapB es p := by rw [sE]; unfold mapB peM; rw [if_pos (by omega)]
theorem IP (h : p ∈ rc sp lg) (g : (es.length : Int) <= p) : AZ es sp lg = false := decide_eq_false (fun c => by have := c p h; omega)
theorem KC (o : od m (rc sp lg)) (h : ∀ k ∈ vs, k < es.length) (g : ∀ k ∈ ga m, k ∈ vs) : AZ es sp lg = true := decide_eq_true (fun p hp => h p (g p ((o.k p).2 hp)))
theorem JN {q : Int} (h : ∀ k ∈ vs, k < (es.length : Int)) (g : q < es.length) : ∀ k ∈ q :: vs, k < (es.length : Int) := fun k hk => by
 rcases List.mem_cons.1 hk with rfl | hk
 ·exact g
 ·exact h k hk
theorem Kx (j0 : 0 <= j) (j1 : j < i) (h : peF es (ab sp i 0) = peF es (ab sp j 0)) (g : pM sp i j = false) : Cb es sp i = false := by
 unfold Cb; exact aZ j0 (by omega) (by unfold yR; rw [g, decide_eq_true h]; rfl)
theorem Iv (h : peF es (ab sp i 0) ≠ peF es (ab sp j 0)) : yR es sp i j = true := by unfold yR; rw [decide_eq_false h]; rfl
theorem Iw (h : pM sp i j = true) : yR es sp i j = true := by unfold yR; rw [h, Bool.or_true]
theorem Ky (h : upto (yR es sp i) j) (g : i <= j) (i0 : 0 <= i) : Cb es sp i = true := by unfold Cb; exact aM h (by omega)
structure B7 (es sp lg : List (List L)) (j : Int) (o : List (List L)) : Prop where
 ok : upto (sV es lg) j
 e : o = dX (fD sp sp.length ++ fC lg j.toNat)
 l : (fC lg j.toNat).length <= 64 * j.toNat
structure Fc (es sp lg : List (List L)) (j k : Int) (o : List (List L)) : Prop where
 ok : upto (sV es lg) j
 h : nZ lg j = true
 g : upto (fun k => Fz es (ab lg j 0 + k)) k
 e : o = dX (fD sp sp.length ++ fC lg j.toNat ++ iN (ab lg j 0) k.toNat)
 l : (fC lg j.toNat).length <= 64 * j.toNat
structure Fe (sp : List (List L)) (i : Int) (o : List (List L)) : Prop where
 ok : upto (nZ sp) i
 e : o = dX (fD sp i.toNat)
variable {o : List (List L)}
theorem KO : Fe sp 0 [] := ⟨aG, rfl⟩
theorem KP (h : Fe sp i o) : o.length = i.toNat := by rw [h.e, bC, iQ]
theorem EW (h : Fe sp i o) (i0 : 0 <= i) (g : nZ sp i = true) : Fe sp (i + 1) (o ++ [[.v (.int .i64 (ab sp i 0))]]) := ⟨aw h.ok g, by rw [iu i0, dq, <- h.e]; rfl⟩
theorem KJ (h : Fe sp i o) (i1 : i <= sp.length) (i2 : (sp.length : Int) <= i) : B7 es sp lg 0 o := ⟨aG, by rw [h.e, show i.toNat = sp.length from by omega]; simp [fC], Nat.zero_le _⟩
theorem Jh (h : B7 es sp lg j o) (g : nZ lg j = true) : Fc es sp lg j 0 o := ⟨h.ok, g, aG, by rw [h.e]; simp [iN], h.l⟩
theorem Ji (h : Fc es sp lg j k o) (k0 : 0 <= k) (g : (fpg es (ab lg j 0 + k)).length = 1) : Fc es sp lg j (k + 1) (o ++ [[.v (.int .i64 (ab lg j 0 + k))]]) :=
 ⟨h.ok, h.h, D5 h.g g, by rw [pT k0, <- List.append_assoc, dq, <- h.e]; rfl, h.l⟩
theorem Jk (h : Fc es sp lg j k o) (j0 : 0 <= j) (n0 : 0 <= ab lg j 1) (n1 : ab lg j 1 <= 64) (k1 : k <= ab lg j 1) (k2 : ab lg j 1 <= k) : B7 es sp lg (j + 1) o := by
 have l := h.l;refine ⟨aw h.ok (Ih h.h h.g k2 n0), ?_, ?_⟩
 ·rw [h.e, show k.toNat = (ab lg j 1).toNat from by omega, List.append_assoc, <- jG j0]
 ·rw [jG j0, List.length_append, kx]; omega
theorem KI (h : Fc es sp lg j k o) (k1 : k <= 64) : o.length <= sp.length + 64 * j.toNat + 64 := by
 have l := h.l;rw [h.e, bC, List.length_append, List.length_append, iQ, kx]; omega
theorem C8 (h : B7 es sp lg j o) (j1 : j <= lg.length) (j2 : (lg.length : Int) <= j) : o = dX (rc sp lg) := by
 have e := h.e; rw [show j.toNat = lg.length from by omega] at e; exact e
theorem EO (hl : layOk sp lg = true) {x : Int} (h : x ∈ rc sp lg) : 0 <= x /\ x <= 31 := by
 have F := Hc hl;unfold rc at h;rw [List.mem_append, iK, km] at h;rcases h with ⟨i, i1, e⟩ | ⟨j, j1, e1, e2⟩
 ·have t := fP (F.s i i1); omega
 ·have t := eV (F.l j j1); have b := eW t.1; omega
theorem Jj (hl : layOk sp lg = true) (h : B7 es sp lg j o) (j1 : j <= lg.length) (j2 : (lg.length : Int) <= j) (hs : sp.length <= 1073741824) (hg : lg.length <= 1073741824) : Rw [tI] o := by
 have l := h.l;rw [C8 h j1 j2];refine lD (fun x hx => by have := EO hl hx; omega) ?_;unfold rc; rw [List.length_append, iQ];rw [show j.toNat = lg.length from by omega] at l; omega
theorem KL (h : B7 es sp lg j o) (j1 : j <= lg.length) (j2 : (lg.length : Int) <= j) (i0 : 0 <= i) (i1 : i < o.length) (g : (es.length : Int) <= ab o i 0) : AZ es sp lg = false := by
 have e := C8 h j1 j2;rw [e] at i1 g;obtain ⟨v, q1, q2⟩ := tq i0 i1;rw [q2] at g;exact IP (List.mem_of_getElem? q1) g
theorem KN (h : B7 es sp lg j o) (j1 : j <= lg.length) (j2 : (lg.length : Int) <= j) (g : upto (fun t => decide (ab o t 0 < es.length)) i) (i2 : (o.length : Int) <= i) : AZ es sp lg = true := by
 have e := C8 h j1 j2;refine decide_eq_true (fun p hp => ?_);obtain ⟨n, n1, rfl⟩ := List.mem_iff_getElem.1 hp;have n2 : n < o.length := by rw [e, bC]; exact n1
 have q := g n (by omega) (by omega);rw [decide_eq_true_eq, e, lC n1] at q;exact q
theorem KM (h : B7 es sp lg j o) (j1 : j <= lg.length) (j2 : (lg.length : Int) <= j) (p : Int) : hasB o p = ownB sp lg p := by
 refine cR ?_;rw [C8 h j1 j2, iG]; unfold ownB; rw [decide_eq_true_eq]
theorem ID (k0 : 0 <= k) (k1 : k < (fpg es (ab sp i 0)).length) (h : spI sp (ab (fpg es (ab sp i 0)) k 0) ≠ i) (g : spI sp (ab (fpg es (ab sp i 0)) k 0) < 0) : msA es sp i = false := by
 unfold msA; exact aZ k0 k1 (by unfold AH; rw [decide_eq_false h, decide_eq_false (by omega)]; rfl)
theorem IE (k0 : 0 <= k) (k1 : k < (fpg es (ab sp i 0)).length) (h : spI sp (ab (fpg es (ab sp i 0)) k 0) ≠ i) (g : pM sp i (spI sp (ab (fpg es (ab sp i 0)) k 0)) = false) : msA es sp i = false := by
 unfold msA; exact aZ k0 k1 (by unfold AH; rw [decide_eq_false h, g]; simp)
theorem Ix (h : spI sp (ab (fpg es (ab sp i 0)) k 0) = i) : AH es sp i k = true := by unfold AH; rw [decide_eq_true h]; rfl
theorem Iy (h : 0 <= spI sp (ab (fpg es (ab sp i 0)) k 0)) (g : pM sp i (spI sp (ab (fpg es (ab sp i 0)) k 0)) = true) : AH es sp i k = true := by unfold AH; rw [decide_eq_true h, g]; simp
theorem JJ {p : Int} (h : 0 <= spI sp p) : spI sp p < sp.length := by
 obtain ⟨b, _⟩ := eh h; exact b
theorem vG {a b : Int} : bu .and .i64 a b = bu .and .i64 b a := by
 show IntKind.wrap .i64 ((BitVec.ofInt _ a &&& BitVec.ofInt _ b).toNat) = IntKind.wrap .i64 ((BitVec.ofInt _ b &&& BitVec.ofInt _ a).toNat);rw [BitVec.and_comm]
theorem AS : pM sp i j = pM sp j i := by
 refine cR ?_;unfold pM mshB;simp only [Bool.and_eq_true, decide_eq_true_eq];rw [vG (a := ab sp i 2)]
 constructor
 ·rintro ⟨a, b, c, d, e⟩; exact ⟨b, a, c.symm, fun h => d h.symm, e⟩
 ·rintro ⟨a, b, c, d, e⟩; exact ⟨b, a, c.symm, fun h => d h.symm, e⟩
theorem te {es : List (List L)} {f : Int} : ∀ {n : Nat} {x : Int}, hasB (qq es f n) x = true ↔ ∃ k : Nat, k < n /\ x = k /\ ab es k 0 ≠ 0 /\ ab es k 1 = f
 | 0, x => ⟨fun h => absurd (rK.1 h) (List.not_mem_nil), fun ⟨k, h, _⟩ => absurd h (Nat.not_lt_zero _)⟩
 | n + 1, x => by
   by_cases c : ab es n 0 ≠ 0 /\ ab es n 1 = f
   ·rw [xU c.1 c.2, CH, Bool.or_eq_true, te, CI]
    constructor
    ·rintro (⟨k, h, e⟩ | e)
     ·exact ⟨k, by omega, e⟩
     ·exact ⟨n, by omega, e.symm, c⟩
    ·rintro ⟨k, h, e, q⟩;by_cases d : k = n
     ·subst d; exact .inr e.symm
     ·exact .inl ⟨k, by omega, e, q⟩
   ·have c' : ab es n 0 = 0 \/ ab es n 1 ≠ f := by
     by_cases z : ab es n 0 = 0
     ·exact .inl z
     ·exact .inr (fun e => c ⟨z, e⟩)
    rw [Bd c', te]
    constructor
    ·rintro ⟨k, h, e⟩; exact ⟨k, by omega, e⟩
    ·rintro ⟨k, h, e, q⟩;by_cases d : k = n
     ·subst d; exact absurd q c
     ·exact ⟨k, by omega, e, q⟩
theorem nP {p x : Int} : hasB (fpg es p) x = true ↔ peM es p ≠ 0 /\ 0 <= x /\ x < es.length /\ peM es x ≠ 0 /\ peF es x = peF es p := by
 by_cases c : peM es p = 0
 ·rw [vQ c];exact ⟨fun h => absurd (rK.1 h) (List.not_mem_nil), fun h => absurd c h.1⟩
 ·rw [sH c];unfold pagesOn;rw [te]
  constructor
  ·rintro ⟨k, h, rfl, q1, q2⟩;refine ⟨c, by omega, by omega, ?_, ?_⟩
   ·unfold peM; rw [if_pos (by omega)]; exact q1
   ·rw [show peF es k = ab es k 1 from by unfold peF; rw [if_pos (by omega)]]; exact q2
  ·rintro ⟨_, h0, h1, q1, q2⟩;refine ⟨x.toNat, by omega, by omega, ?_, ?_⟩
   ·rw [Int.toNat_of_nonneg h0]; unfold peM at q1; rw [if_pos (by omega)] at q1; exact q1
   ·rw [Int.toNat_of_nonneg h0]; unfold peF at q2; rw [if_pos (c := 0 <= x /\ x < _) (by omega)] at q2; rw [q2]; rfl
theorem sM {l : List (List L)} {x : Int} : hasB l x = true ↔ ∃ k : Nat, k < l.length /\ ab l k 0 = x := xk
theorem Be (hl : layOk sp lg = true) : pgI es fr sp lg = (pgS es fr sp lg && smS es sp) := by
 have F := Hc hl;unfold pgI pgS;by_cases h1 : bE (nZ sp) sp.length = true
 case neg => rw [Bool.not_eq_true] at h1; rw [h1]; rfl
 by_cases h2 : bE (sV es lg) lg.length = true
 case neg => rw [Bool.not_eq_true] at h2; rw [h2]; simp
 by_cases h3 : bE (rA es fr sp lg) es.length = true
 case neg => rw [Bool.not_eq_true] at h3; rw [h3]; simp
 by_cases h4 : AZ es sp lg = true
 case neg => rw [Bool.not_eq_true] at h4; rw [h4]; simp
 rw [h1, h2, h3, h4];simp only [Bool.true_and];have h4' := of_decide_eq_true h4;have mp : ∀ q : Int, 0 <= q -> q < es.length -> (peM es q ≠ 0 ↔ q ∈ rc sp lg) := by
  intro q q0 q1;have e := cB.1 h3 q q0 q1;unfold rA at e;simp only [Bool.and_eq_true, beq_iff_eq] at e;have e := e.1;unfold mapB ownB at e
  constructor
  ·intro h; rw [decide_eq_true h] at e; exact of_decide_eq_true e.symm
  ·intro h; rw [decide_eq_true h] at e; exact of_decide_eq_true e
 have spg : ∀ n : Nat, n < sp.length -> ab sp n 0 ∈ rc sp lg := fun n hn => List.mem_append.2 (.inl (iK.2 ⟨n, hn, rfl⟩))
 have spm : ∀ n : Nat, n < sp.length -> 0 <= ab sp n 0 /\ ab sp n 0 < es.length /\ peM es (ab sp n 0) ≠ 0 := by
  intro n hn;have b := EO hl (spg n hn);have c := h4' _ (spg n hn);exact ⟨b.1, c, (mp _ b.1 c).2 (spg n hn)⟩
 have sat : ∀ n : Nat, n < sp.length -> spI sp (ab sp n 0) = n := by
  intro n hn;have q := ke (p := isSp sp (ab sp n 0)) hn (lW rfl);obtain ⟨q1, q2⟩ := eh q;obtain ⟨m, e⟩ := Int.eq_ofNat_of_zero_le q;have e' : spI sp (ab sp n 0) = m := e;rw [e] at q1 q2;have := F.ss m n (by omega) hn (of_decide_eq_true q2);rw [e', this]
 refine cR ?_;unfold smS;rw [cB, cB]
 constructor
 ·intro h i i0 i1;unfold msA;rw [cB];intro k k0 k1;obtain ⟨ii, rfl⟩ := Int.eq_ofNat_of_zero_le i0;obtain ⟨kk, rfl⟩ := Int.eq_ofNat_of_zero_le k0;have hx : hasB (fpg es (ab sp ii 0)) (ab (fpg es (ab sp ii 0)) kk 0) = true := sM.2 ⟨kk, by omega, rfl⟩;generalize hX : ab (fpg es (ab sp ii 0)) kk 0 = x at hx;obtain ⟨c1, c2, c3, c4, c5⟩ := nP.1 hx;have hp := (mp x c2 c3).1 c4;unfold rc at hp;rw [List.mem_append, iK, km] at hp;unfold AH;rw [hX];rcases hp with ⟨n, n1, rfl⟩ | ⟨j, j1, e1, e2⟩
  ·rw [sat n n1];rcases Nat.lt_trichotomy n ii with c | c | c
   ·have q := cB.1 (h ii (by omega) i1) n (by omega) (by omega);unfold yR at q;rw [c5, decide_eq_true rfl] at q;rw [show pM sp ii n = true from by simpa using q, decide_eq_true (p := (0 : Int) <= n) (by omega)]; simp
   ·rw [c, decide_eq_true rfl]; rfl
   ·have q := cB.1 (h n (by omega) (by omega)) ii (by omega) (by omega);unfold yR at q;rw [c5, decide_eq_true rfl] at q;have q' : pM sp n ii = true := by simpa using q
    rw [AS, q', decide_eq_true (p := (0 : Int) <= n) (by omega)]; simp
  ·exfalso;have t := eV (F.l j j1); have b := eW t.1;have q := de h2 j j1;unfold sV at q;simp only [Bool.and_eq_true] at q;have q2 := cB.1 q.2 (x - ab lg j 0) (by omega) (by omega);rw [show ab lg j 0 + (x - ab lg j 0) = x from by omega] at q2;have q3 := of_decide_eq_true q2;have s1 := spm ii (by omega);have a1 : hasB (fpg es x) x = true := nP.2 ⟨c4, c2, c3, c4, rfl⟩;have a2 : hasB (fpg es x) (ab sp ii 0) = true := nP.2 ⟨c4, s1.1, s1.2.1, s1.2.2, c5.symm⟩;obtain ⟨u, u1, u2⟩ := sM.1 a1;obtain ⟨v, v1, v2⟩ := sM.1 a2;have : u = v := by omega
   subst this;rw [u2] at v2;exact F.sl ii j (by omega) j1 (by omega) (by omega)
 ·intro h i i0 i1;unfold Cb;rw [cB];intro j j0 j1;obtain ⟨ii, rfl⟩ := Int.eq_ofNat_of_zero_le i0;obtain ⟨jj, rfl⟩ := Int.eq_ofNat_of_zero_le j0;unfold yR;by_cases c : peF es (ab sp ii 0) = peF es (ab sp jj 0)
  case neg => rw [decide_eq_false c]; rfl
  have s1 := spm ii (by omega);have s2 := spm jj (by omega);have a : hasB (fpg es (ab sp ii 0)) (ab sp jj 0) = true := nP.2 ⟨s1.2.2, s2.1, s2.2.1, s2.2.2, c.symm⟩;obtain ⟨k, k1, k2⟩ := sM.1 a;have q := h ii (by omega) i1;unfold msA at q;have q := de q k k1;unfold AH at q;rw [k2, sat jj (by omega), decide_eq_false (p := (jj : Int) = ii) (by omega)] at q;simp only [Bool.false_or, Bool.and_eq_true] at q;rw [q.2, Bool.or_true]
end
end Go.V
namespace Go.V
def jobZ (k m : Int) (cs : List (List L)) (ph nx : Int) : Bool := decide (ph = 0) && (decide (nx = 0) && (decide (k = 0) && (decide (m = 0) && decide (cs.length = 0))))
def pF (sp : List (List L)) (me : Bool) (k m : Int) (cs : List (List L)) (ph nx : Int) : Bool :=
 bif me then (jbOk k m cs ph nx && (decide (0 <= spI sp k) && decide (0 <= spI sp m))) else jobZ k m cs ph nx
def DN (cs : List (List L)) (i : Int) : Bool := caOk (ay cs i 0)
def hpI (a0 a1 a2 : List (List L)) (a3 : Int) (a4 a5 a6 a7 a8 a9 a10 a11 : List (List L)) (a12 : Int) (a13 : List (List L)) (a14 a15 a16 a17 : Int) (a18 : Bool) (a19 a20 : Int) (a21 : List (List L)) (a22 a23 : Int) : Bool :=
 kerOk a0 a1 a2 a3 a4 && (rgOk a2.length a5 && (layOk a6 a7 && (pgI a2 a5 a6 a7 && (mailOk a10 a11 && (decide (a9.length = a10.length) && (quarOk a12 a13 && (bE (DN a9) a9.length &&
  (objOk a6 a7 a8 a9 a17 && (hoI a6 a7 a8 a9 a10 a11 a13 a15 && (inR a14 0 1073741823 && (inR a15 0 1000000 && (inR a16 0 1000 && (inR a17 1 1000000 && pF a6 a18 a19 a20 a21 a22 a23)))))))))))))
structure nK (a0 a1 a2 a4 a5 a6 a7 a8 a9 a10 a11 a13 a21 : List (List L)) : Prop where
 n : sd a6 a7 a8 a9 a10 a11 a13
 c : Rw [.sl [tI]] a0
 u : Rw [tB] a1
 e : Rw [tI, tI] a2
 el : a2.length <= 1073741824
 r : Rw [tI] a4
 f : Rw [tI, tI] a5
 fl : a5.length <= 1073741824
 j : Rw [tI] a21
 jl : a21.length <= 1073741824
section
variable {a0 a1 a2 : List (List L)} {a3 : Int} {a4 a5 a6 a7 a8 a9 a10 a11 : List (List L)} {a12 : Int} {a13 : List (List L)} {a14 a15 a16 a17 : Int} {a18 : Bool} {a19 a20 : Int} {a21 : List (List L)} {a22 a23 : Int} {i : Int}
theorem HP (h : kerOk a0 a1 a2 a3 a4 = false) : hpI a0 a1 a2 a3 a4 a5 a6 a7 a8 a9 a10 a11 a12 a13 a14 a15 a16 a17 a18 a19 a20 a21 a22 a23 = false := by unfold hpI; rw [h]; simp
theorem HW (h : rgOk a2.length a5 = false) : hpI a0 a1 a2 a3 a4 a5 a6 a7 a8 a9 a10 a11 a12 a13 a14 a15 a16 a17 a18 a19 a20 a21 a22 a23 = false := by unfold hpI; rw [h]; simp
theorem HQ (h : layOk a6 a7 = false) : hpI a0 a1 a2 a3 a4 a5 a6 a7 a8 a9 a10 a11 a12 a13 a14 a15 a16 a17 a18 a19 a20 a21 a22 a23 = false := by unfold hpI; rw [h]; simp
theorem FL (h : pgI a2 a5 a6 a7 = false) : hpI a0 a1 a2 a3 a4 a5 a6 a7 a8 a9 a10 a11 a12 a13 a14 a15 a16 a17 a18 a19 a20 a21 a22 a23 = false := by unfold hpI; rw [h]; simp
theorem HR (h : mailOk a10 a11 = false) : hpI a0 a1 a2 a3 a4 a5 a6 a7 a8 a9 a10 a11 a12 a13 a14 a15 a16 a17 a18 a19 a20 a21 a22 a23 = false := by unfold hpI; rw [h]; simp
theorem Ki (h : decide (a9.length = a10.length) = false) : hpI a0 a1 a2 a3 a4 a5 a6 a7 a8 a9 a10 a11 a12 a13 a14 a15 a16 a17 a18 a19 a20 a21 a22 a23 = false := by unfold hpI; rw [h]; simp
theorem HV (h : quarOk a12 a13 = false) : hpI a0 a1 a2 a3 a4 a5 a6 a7 a8 a9 a10 a11 a12 a13 a14 a15 a16 a17 a18 a19 a20 a21 a22 a23 = false := by unfold hpI; rw [h]; simp
theorem Kh (h : bE (DN a9) a9.length = false) : hpI a0 a1 a2 a3 a4 a5 a6 a7 a8 a9 a10 a11 a12 a13 a14 a15 a16 a17 a18 a19 a20 a21 a22 a23 = false := by unfold hpI; rw [h]; simp
theorem FK (h : objOk a6 a7 a8 a9 a17 = false) : hpI a0 a1 a2 a3 a4 a5 a6 a7 a8 a9 a10 a11 a12 a13 a14 a15 a16 a17 a18 a19 a20 a21 a22 a23 = false := by unfold hpI; rw [h]; simp
theorem FJ (h : hoI a6 a7 a8 a9 a10 a11 a13 a15 = false) : hpI a0 a1 a2 a3 a4 a5 a6 a7 a8 a9 a10 a11 a12 a13 a14 a15 a16 a17 a18 a19 a20 a21 a22 a23 = false := by unfold hpI; rw [h]; simp
theorem HX (h : inR a14 0 1073741823 = false) : hpI a0 a1 a2 a3 a4 a5 a6 a7 a8 a9 a10 a11 a12 a13 a14 a15 a16 a17 a18 a19 a20 a21 a22 a23 = false := by unfold hpI; rw [h]; simp
theorem HZ (h : inR a15 0 1000000 = false) : hpI a0 a1 a2 a3 a4 a5 a6 a7 a8 a9 a10 a11 a12 a13 a14 a15 a16 a17 a18 a19 a20 a21 a22 a23 = false := by unfold hpI; rw [h]; simp
theorem H0 (h : inR a16 0 1000 = false) : hpI a0 a1 a2 a3 a4 a5 a6 a7 a8 a9 a10 a11 a12 a13 a14 a15 a16 a17 a18 a19 a20 a21 a22 a23 = false := by unfold hpI; rw [h]; simp
theorem H1 (h : inR a17 1 1000000 = false) : hpI a0 a1 a2 a3 a4 a5 a6 a7 a8 a9 a10 a11 a12 a13 a14 a15 a16 a17 a18 a19 a20 a21 a22 a23 = false := by unfold hpI; rw [h]; simp
theorem Eg (h : (a9.length : Int) ≠ a10.length) : hpI a0 a1 a2 a3 a4 a5 a6 a7 a8 a9 a10 a11 a12 a13 a14 a15 a16 a17 a18 a19 a20 a21 a22 a23 = false := Ki (decide_eq_false (by omega))
theorem Ef (i0 : 0 <= i) (i1 : i < a9.length) (h : caOk (ay a9 i 0) = false) : hpI a0 a1 a2 a3 a4 a5 a6 a7 a8 a9 a10 a11 a12 a13 a14 a15 a16 a17 a18 a19 a20 a21 a22 a23 = false := Kh (aZ i0 i1 h)
theorem Aa (hk : kerOk a0 a1 a2 a3 a4 = true) (hr : rgOk a2.length a5 = true) (hl : layOk a6 a7 = true) (hp : pgI a2 a5 a6 a7 = true) (hm : mailOk a10 a11 = true) (hn : decide (a9.length = a10.length) = true) (hq : quarOk a12 a13 = true) (hc : bE (DN a9) a9.length = true) (ho : objOk a6 a7 a8 a9 a17 = true) (hh : hoI a6 a7 a8 a9 a10 a11 a13 a15 = true) (hs : inR a14 0 1073741823 = true) (ht : inR a15 0 1000000 = true) (hw : inR a16 0 1000 = true) (hx : inR a17 1 1000000 = true) : hpI a0 a1 a2 a3 a4 a5 a6 a7 a8 a9 a10 a11 a12 a13 a14 a15 a16 a17 a18 a19 a20 a21 a22 a23 = pF a6 a18 a19 a20 a21 a22 a23 := by unfold hpI; rw [hk, hr, hl, hp, hm, hn, hq, hc, ho, hh, hs, ht, hw, hx]; rfl
structure Lq (a0 a1 a2 : List (List L)) (a3 : Int) (a4 a5 a6 a7 a8 a9 a10 a11 : List (List L)) (a12 : Int) (a13 : List (List L)) (a14 a15 a16 a17 : Int) (a18 : Bool) (a19 a20 : Int) (a21 : List (List L)) (a22 a23 : Int) : Prop where
 k : kerOk a0 a1 a2 a3 a4 = true
 r : rgOk a2.length a5 = true
 l : layOk a6 a7 = true
 p : pgI a2 a5 a6 a7 = true
 m : mailOk a10 a11 = true
 n : decide (a9.length = a10.length) = true
 q : quarOk a12 a13 = true
 c : bE (DN a9) a9.length = true
 o : objOk a6 a7 a8 a9 a17 = true
 h : hoI a6 a7 a8 a9 a10 a11 a13 a15 = true
 s : inR a14 0 1073741823 = true
 t : inR a15 0 1000000 = true
 w : inR a16 0 1000 = true
 x : inR a17 1 1000000 = true
 j : pF a6 a18 a19 a20 a21 a22 a23 = true
theorem HT (h : hpI a0 a1 a2 a3 a4 a5 a6 a7 a8 a9 a10 a11 a12 a13 a14 a15 a16 a17 a18 a19 a20 a21 a22 a23 = true) : Lq a0 a1 a2 a3 a4 a5 a6 a7 a8 a9 a10 a11 a12 a13 a14 a15 a16 a17 a18 a19 a20 a21 a22 a23 := by
 unfold hpI at h;simp only [Bool.and_eq_true] at h;obtain ⟨hk, hr, hl, hp, hm, hn, hq, hc, ho, hh, hs, ht, hw, hx, hj⟩ := h;exact ⟨hk, hr, hl, hp, hm, hn, hq, hc, ho, hh, hs, ht, hw, hx, hj⟩
theorem Ek (h : jbOk a19 a20 a21 a22 a23 = false) : false = pF a6 true a19 a20 a21 a22 a23 := by unfold pF; rw [h]; rfl
theorem El (h : spI a6 a19 < 0) : false = pF a6 true a19 a20 a21 a22 a23 := by unfold pF; rw [decide_eq_false (p := 0 <= spI a6 a19) (by omega)]; simp
theorem Em (h : jbOk a19 a20 a21 a22 a23 = true) (g : 0 <= spI a6 a19) : bQ .geq (spI a6 a20) 0 = pF a6 true a19 a20 a21 a22 a23 := by unfold pF; rw [h, decide_eq_true g]; rfl
theorem JK (h : bE (sA a13 a15) a13.length = false) (hl : layOk a6 a7 = true) (ho : objOk a6 a7 a8 a9 a17 = true) : hoI a6 a7 a8 a9 a10 a11 a13 a15 = false := by rw [zY hl ho, h, Bool.and_false]
theorem HY (i0 : 0 <= i) (i1 : i < a13.length) (h : a15 < ab a13 i 2) (hl : layOk a6 a7 = true) : hpI a0 a1 a2 a3 a4 a5 a6 a7 a8 a9 a10 a11 a12 a13 a14 a15 a16 a17 a18 a19 a20 a21 a22 a23 = false := by
 by_cases ho : objOk a6 a7 a8 a9 a17 = true
 ·exact FJ (JK (aZ i0 i1 (by unfold sA; exact decide_eq_false (by omega))) hl ho)
 ·exact FK (by simpa using ho)
theorem HU (hl : layOk a6 a7 = true) (h : pgS a2 a5 a6 a7 = false) : hpI a0 a1 a2 a3 a4 a5 a6 a7 a8 a9 a10 a11 a12 a13 a14 a15 a16 a17 a18 a19 a20 a21 a22 a23 = false := FL (by rw [Be hl, h]; rfl)
theorem HS (hl : layOk a6 a7 = true) (h : smS a2 a6 = false) : hpI a0 a1 a2 a3 a4 a5 a6 a7 a8 a9 a10 a11 a12 a13 a14 a15 a16 a17 a18 a19 a20 a21 a22 a23 = false := FL (by rw [Be hl, h, Bool.and_false])
theorem HO (hl : layOk a6 a7 = true) (ho : objOk a6 a7 a8 a9 a17 = true) (h : hoS a6 a7 a8 a9 a10 a11 a13 = false) : hpI a0 a1 a2 a3 a4 a5 a6 a7 a8 a9 a10 a11 a12 a13 a14 a15 a16 a17 a18 a19 a20 a21 a22 a23 = false := FJ (by rw [zY hl ho, h]; rfl)
theorem KD (hl : layOk a6 a7 = true) (h : pgS a2 a5 a6 a7 = true) (g : smS a2 a6 = true) : pgI a2 a5 a6 a7 = true := by rw [Be hl, h, g]; rfl
theorem Kg (hl : layOk a6 a7 = true) (ho : objOk a6 a7 a8 a9 a17 = true) (h : hoS a6 a7 a8 a9 a10 a11 a13 = true) (i2 : (a13.length : Int) <= i) (g : upto (sA a13 a15) i) : hoI a6 a7 a8 a9 a10 a11 a13 a15 = true := by rw [zY hl ho, h, aM g i2]; rfl
theorem K4 (h : ab a13 i 2 <= a15) : sA a13 a15 i = true := decide_eq_true h
end
theorem vT {a0 a1 a2 a4 a5 a6 a7 a8 a9 a10 a11 a13 a21 : List (List L)} (h0 : Rw [.sl [tI]] a0) (h1 : Rw [tB] a1) (h2 : Rw [tI, tI] a2) (h4 : Rw [tI] a4) (h5 : Rw [tI, tI] a5) (h6 : Rw [tI, tI, tI] a6) (h7 : Rw [tI, tI, tI] a7) (h8 : Rw [tI, tI, tI, tI] a8) (h9 : Rw [.sl [.sl [tI]]] a9) (h10 : Rw [.sl [tI, tI]] a10) (h11 : Rw [.sl [tI]] a11) (h13 : Rw [tI, tI, tI] a13) (h21 : Rw [tI] a21) 
 (hs : ao a0 <= 1048576 /\ ao a1 <= 1048576 /\ ao a2 <= 1048576 /\ ao a4 <= 1048576 /\ ao a5 <= 1048576 /\ ao a6 <= 1048576 /\ ao a7 <= 1048576 /\ ao a8 <= 1048576 /\ ao a9 <= 1048576 /\ ao a10 <= 1048576 /\ ao a11 <= 1048576 /\ ao a13 <= 1048576 /\ ao a21 <= 1048576) : nK a0 a1 a2 a4 a5 a6 a7 a8 a9 a10 a11 a13 a21 := by
 obtain ⟨c0, c1, c2, c4, c5, c6, c7, c8, c9, c10, c11, c13, c21⟩ := hs;exact ⟨Gu h6 h7 h8 h9 h10 h11 h13 c6 c7 c8 c9 c10 c11 c13, h0, h1, h2, by unfold ao at c2; omega, h4, h5, by unfold ao at c5; omega, h21, by unfold ao at c21; omega⟩
end Go.V
namespace Go.V
def obD (a s ad : Int) : Bool := inR ad a (bu .sub .i64 (bu .add .i64 a s) 1)
def AX (os : List (List L)) (ad j : Int) : Bool := obD (ab os j 1) (ab os j 2) ad
def ofI (os : List (List L)) (ad : Int) : Int := bW (AX os ad) os.length
def ooI (b : Bool) (os : List (List L)) (ad : Int) : Int := if b = true then ofI os ad else -1
theorem IW {b : Bool} {os : List (List L)} {ad : Int} (h : b = false) : ooI b os ad = -1 := by subst h; rfl
theorem IX {b : Bool} {os : List (List L)} {ad : Int} (h : b = true) : ooI b os ad = ofI os ad := by subst h; rfl
theorem IR {sp lg : List (List L)} {a s : Int} (h : okO sp lg a s = true) : 0 <= a /\ a <= 2000 /\ 1 <= s /\ s <= 1000 := by
 unfold okO at h;simp only [Bool.and_eq_true, Bool.or_eq_true, decide_eq_true_eq] at h;obtain ⟨_, ⟨k, c⟩ | ⟨k, c⟩⟩ := h
 ·have e := ut k;have q : 0 <= hK sp a := by
   unfold dnK at k;by_cases w : 0 <= hK sp a
   ·exact w
   ·rw [if_neg w] at k; split at k <;> omega
  have t := (eh q).2;change rV sp a (hK sp a) = true at t;obtain ⟨t1, t2, t3⟩ := tt.1 (ye.1 t);have hs := fP t1;have hk := bc.1 hs.2.2.1;have w : dnI sp lg a = hK sp a := by unfold dnI; rw [if_pos q]
  rw [w] at c;have b := Hs (s := s) (by omega);omega
 ·have q : ¬ 0 <= hK sp a := fun w => by
   unfold dnK at k;rw [if_pos w] at k; split at k <;> omega
  have g : 0 <= l5 lg a := by
   unfold dnK at k;rw [if_neg q] at k;by_cases w : 0 <= l5 lg a
   ·exact w
   ·rw [if_neg w] at k; omega
  have t := (eh g).2;change sU lg a (l5 lg a) = true at t;have w : dnI sp lg a = l5 lg a := by unfold dnI; rw [if_neg q, if_pos g]
  rw [w] at c;unfold sU lhB at t;rw [Bool.and_eq_true] at t;obtain ⟨t1, t2, t3, t4⟩ := eV t.1;have u := bc.1 t.2;have v := bc.1 t1;have pf : 0 <= ab lg (l5 lg a) 1 := by rw [t2]; unfold pfN; split <;> omega
  omega
theorem IO {sp lg os cs : List (List L)} {nx i : Int} (h : objOk sp lg os cs nx = true) (i0 : 0 <= i) (i1 : i < os.length) : 0 <= ab os i 1 /\ ab os i 1 <= 2000 /\ 1 <= ab os i 2 /\ ab os i 2 <= 1000 := by
 have t := cB.1 h i i0 i1;unfold ra at t;simp only [Bool.and_eq_true] at t;exact IR t.2.2.2.2
structure G5 (os : List (List L)) : Prop where
 w : Rw [tI, tI, tI, tI] os
 l : os.length <= 1099511627776
 b : ∀ i : Int, 0 <= i -> i < os.length -> 0 <= ab os i 1 /\ ab os i 1 <= 2000 /\ 1 <= ab os i 2 /\ ab os i 2 <= 1000
theorem AY {os : List (List L)} (O : G5 os) {i : Int} (i0 : 0 <= i) (i1 : i < os.length) : bu .add .i64 (ab os i 1) (ab os i 2) = ab os i 1 + ab os i 2 /\ bu .sub .i64 (bu .add .i64 (ab os i 1) (ab os i 2)) 1 = ab os i 1 + ab os i 2 - 1 := by
 have b := O.b i i0 i1;have e : bu .add .i64 (ab os i 1) (ab os i 2) = ab os i 1 + ab os i 2 := bG (by omega);exact ⟨e, by rw [e, ce (by omega)]⟩
theorem KA {os : List (List L)} {ad i : Int} (O : G5 os) (i0 : 0 <= i) (i1 : i < os.length) (h : ad < ab os i 1 \/ bu .add .i64 (ab os i 1) (ab os i 2) <= ad) : AX os ad i = false := by
 have e := AY O i0 i1;unfold AX obD;rw [e.2];rw [e.1] at h;cases c : inR ad (ab os i 1) (ab os i 1 + ab os i 2 - 1) with
 | false => rfl
 | true => have := bc.1 c; omega
theorem KB {os : List (List L)} {ad i : Int} (O : G5 os) (i0 : 0 <= i) (i1 : i < os.length) (g : ab os i 1 <= ad) (h : ad < bu .add .i64 (ab os i 1) (ab os i 2)) : AX os ad i = true := by
 have e := AY O i0 i1;unfold AX obD;rw [e.2];rw [e.1] at h;exact bc.2 ⟨g, by omega⟩
theorem Gx {a0 a1 a2 : List (List L)} {a3 : Int} {a4 a5 a6 a7 a8 a9 a10 a11 : List (List L)} {a12 : Int} {a13 : List (List L)} {a14 a15 a16 a17 : Int} {a18 : Bool} {a19 a20 : Int} {a21 : List (List L)} {a22 a23 : Int} (w : Rw [tI, tI, tI, tI] a8) (l : a8.length <= 1099511627776) (h : hpI a0 a1 a2 a3 a4 a5 a6 a7 a8 a9 a10 a11 a12 a13 a14 a15 a16 a17 a18 a19 a20 a21 a22 a23 = true) : G5 a8 :=
 ⟨w, l, fun i i0 i1 => IO (HT h).o i0 i1⟩
end Go.V
namespace Go.V
def wc (es : List (List L)) : Nat -> Int
 | 0 => 0
 | n + 1 => if ab es n 0 = 0 then wc es n else wc es n + 1
def mpT (es : List (List L)) : Int := wc es es.length
theorem wd {es : List (List L)} : ∀ {n : Nat}, 0 <= wc es n /\ wc es n <= n
 | 0 => ⟨Int.le_refl _, Int.le_refl _⟩
 | n + 1 => by
   have := wd (es := es) (n := n);unfold wc; split <;> omega
theorem AQ {es : List (List L)} {i : Int} (i1 : i <= es.length) (i2 : (es.length : Int) <= i) : wc es i.toNat = mpT es := by unfold mpT; rw [show i.toNat = es.length by omega]
theorem xK {es : List (List L)} {i : Int} (i0 : 0 <= i) (h : ab es i 0 = 0) : wc es (i + 1).toNat = wc es i.toNat := by
 obtain ⟨k, rfl⟩ := Int.eq_ofNat_of_zero_le i0;rw [show ((k : Int) + 1).toNat = k + 1 by omega, show (k : Int).toNat = k by omega];show (if ab es k 0 = 0 then _ else _) = _;rw [if_pos h]
theorem AR {es : List (List L)} {i : Int} (i0 : 0 <= i) (h : ab es i 0 ≠ 0) : wc es (i + 1).toNat = wc es i.toNat + 1 := by
 obtain ⟨k, rfl⟩ := Int.eq_ofNat_of_zero_le i0;rw [show ((k : Int) + 1).toNat = k + 1 by omega, show (k : Int).toNat = k by omega];show (if ab es k 0 = 0 then _ else _) = _;rw [if_neg h]
def hlV (o v : Int) : Int := if o < 0 then 0 else v
def hlK (o : Int) : Int := if o < 0 then 1 else 0
theorem xm {o v : Int} (h : o < 0) : hlV o v = 0 /\ hlK o = 1 := by unfold hlV hlK; rw [if_pos h, if_pos h]; exact ⟨rfl, rfl⟩
theorem sN {o v : Int} (h : ¬ o < 0) : hlV o v = v /\ hlK o = 0 := by unfold hlV hlK; rw [if_neg h, if_neg h]; exact ⟨rfl, rfl⟩
def sfI (b : Bool) (m u : Int) : Int := if b = true then bu .sub .i64 m u else 0
theorem JF {b : Bool} {m u : Int} (h : b = false) : sfI b m u = 0 := by subst h; rfl
theorem JG {b : Bool} {m u : Int} (h : b = true) : sfI b m u = bu .sub .i64 m u := by subst h; rfl
end Go.V
namespace Go.V
def rh (us : List (List L)) : Nat -> Int
 | 0 => 0
 | n + 1 => if rH us n 0 = true then rh us n + 1 else rh us n
theorem wD {us : List (List L)} : ∀ {n : Nat}, 0 <= rh us n /\ rh us n <= n
 | 0 => by simp [rh]
 | n + 1 => by
   have := wD (us := us) (n := n);unfold rh; split <;> omega
theorem yk {us : List (List L)} {i : Int} (hi : 0 <= i) (h : rH us i 0 = true) : rh us (i + 1).toNat = rh us i.toNat + 1 := by
 have e : ((i.toNat : Nat) : Int) = i := Int.toNat_of_nonneg hi;rw [show (i + 1).toNat = i.toNat + 1 from by omega, rh, if_pos (by rw [e]; exact h)]
theorem BN {us : List (List L)} {i : Int} (hi : 0 <= i) (h : rH us i 0 = false) : rh us (i + 1).toNat = rh us i.toNat := by
 have e : ((i.toNat : Nat) : Int) = i := Int.toNat_of_nonneg hi;rw [show (i + 1).toNat = i.toNat + 1 from by omega, rh, if_neg (by rw [e, h]; decide)]
def ufN (cs us : List (List L)) : Int := if framesOk cs us = true then rh us us.length else 0
theorem BM {cs us : List (List L)} {i : Int} (h : framesOk cs us = true) (h0 : i <= us.length) (h1 : (us.length : Int) <= i) : ufN cs us = rh us i.toNat := by
 unfold ufN; rw [if_pos h, show i.toNat = us.length by omega]
theorem E3 {cs us : List (List L)} (h : framesOk cs us = false) : ufN cs us = 0 := by unfold ufN; rw [h]; rfl
theorem GQ {cs us : List (List L)} {i : Int} (h0 : i <= us.length) (h1 : (us.length : Int) <= i) (h : i = 0 \/ framesOk cs us = true) : ufN cs us = rh us i.toNat := by
 rcases h with rfl | h
 ·unfold ufN; have : us.length = 0 := by omega
  rw [this]; simp [rh]
 ·exact BM h h0 h1
theorem GP {cs us : List (List L)} {i n : Int} (hn : n = rh us i.toNat) (h : i = 0 \/ framesOk cs us = true) (hf : framesOk cs us = false) : n = ufN cs us := by
 rcases h with rfl | h
 ·rw [E3 hf, hn]; rfl
 ·rw [hf] at h; cases h
def ldV (cs us es : List (List L)) (a : Int) : Int := if machOk cs us es = true /\ leM es a ≠ 0 then ab (ay cs (leF es a) 0) (leK a) 0 else 0
def ldK (cs us es : List (List L)) (a : Int) : Int := if machOk cs us es = true /\ leM es a ≠ 0 then 0 else 1
theorem Au {cs us es : List (List L)} {a : Int} (h : machOk cs us es = true) (h1 : leM es a ≠ 0) : ldV cs us es a = ab (ay cs (leF es a) 0) (leK a) 0 /\ ldK cs us es a = 0 := by unfold ldV ldK; rw [if_pos ⟨h, h1⟩, if_pos ⟨h, h1⟩]; exact ⟨rfl, rfl⟩
theorem xE {cs us es : List (List L)} {a : Int} (h : machOk cs us es = false \/ leM es a = 0) : ldV cs us es a = 0 /\ ldK cs us es a = 1 := by
 have : ¬ (machOk cs us es = true /\ leM es a ≠ 0) := by rintro ⟨x, y⟩; rcases h with q | q; rw [x] at q; cases q; exact y q
 unfold ldV ldK; rw [if_neg this, if_neg this]; exact ⟨rfl, rfl⟩
theorem Ii {cs us es : List (List L)} {a : Int} (h : machOk cs us es = true) (h1 : leM es a ≠ 0) : 0 <= leF es a /\ leF es a < cs.length /\ (ay cs (leF es a) 0).length = 16 := by
 have t := Ey h;have ha : ¬ a < 0 := fun q => h1 (lc q).1
 have p := gd (es := es) ha;rw [p.1] at h1; rw [p.2.1];have f := EN t.2.1 h1;exact ⟨f.1, f.2.1, D8 t.1 f.1 f.2.1⟩
theorem Ga {cs us es : List (List L)} {a : Int} (h : smM cs us es a = 0) : ldV cs us es a = 0 /\ ldK cs us es a = 1 := by
 cases q : machOk cs us es with
 | false => exact xE (.inl q)
 | true => exact xE (.inr (by rw [<- (lG q).1]; exact h))
theorem Gb {cs us es : List (List L)} {a : Int} (h : smM cs us es a ≠ 0) : ldV cs us es a = ab (ay cs (smF cs us es a) 0) (a % 16) 0 /\ ldK cs us es a = 0 := by
 have ok := BH h;have sy := lG (a := a) ok.1;have q := Au ok.1 (by rw [<- sy.1]; exact h);exact ⟨by rw [q.1, sy.2, (gd (es := es) (by omega)).2.2], q.2⟩
end Go.V