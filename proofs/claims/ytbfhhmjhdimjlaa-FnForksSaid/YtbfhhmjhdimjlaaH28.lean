/-
  A store into a fork keeps it valid.
-/
import Derived.Test.YtbfhhmjhdimjlaaH27
set_option linter.all false
namespace Go.V
theorem maps_iff {E : List (List L)} {f : Int} : mapsB E f = true ↔ ∃ p : Int, 0 <= p /\ p < E.length /\ giI E p 0 ≠ 0 /\ giI E p 1 = f := by
 rw [mapsB_t]
 unfold pagesOn
 suffices h : ∀ n : Nat, 0 < (pgN E f n).length ↔ ∃ p : Int, 0 <= p /\ p < n /\ giI E p 0 ≠ 0 /\ giI E p 1 = f from h _
 intro n
 induction n with
 | zero => exact ⟨fun h => by simp [pgN] at h, fun ⟨p, h0, h1, _⟩ => by omega⟩
 | succ n ih =>
   by_cases c : giI E n 0 ≠ 0 /\ giI E n 1 = f
   ·rw [pgN_yes c.1 c.2]
    exact ⟨fun _ => ⟨n, by omega, by omega, c⟩, fun _ => by simp⟩
   ·rw [pgN_no (by by_cases q : giI E n 0 = 0; exact .inl q; exact .inr fun h => c ⟨q, h⟩), ih]
    constructor
    ·rintro ⟨p, h0, h1, h2⟩; exact ⟨p, h0, by omega, h2⟩
    ·rintro ⟨p, h0, h1, h2⟩
     by_cases e : p = n
     ·subst e; exact absurd h2 c
     ·exact ⟨p, h0, by omega, h2⟩
theorem maps_ff {E : List (List L)} {f : Int} : mapsB E f = false ↔ ∀ p : Int, 0 <= p -> p < E.length -> giI E p 0 ≠ 0 -> giI E p 1 ≠ f := by
 constructor
 ·intro h p h0 h1 h2 h3
  have := maps_iff.2 ⟨p, h0, h1, h2, h3⟩
  rw [h] at this; cases this
 ·intro h
  cases q : mapsB E f
  ·rfl
  ·obtain ⟨p, h0, h1, h2, h3⟩ := maps_iff.1 q
   exact absurd h3 (h p h0 h1 h2)
theorem rwE_gi {es : List (List L)} {k n p : Int} (h0 : 0 <= k) (h1 : k < es.length) (hp : 0 <= p) : giI (rwE es k n) p 0 = giI es p 0 /\ giI (rwE es k n) p 1 = if p = k then n else giI es p 1 := by
 unfold rwE
 rw [gI_set h0 h1 hp, gI_set h0 h1 hp]
 constructor
 ·split
  ·rename_i e; subst e; rfl
  ·rfl
 ·rfl
theorem rm_gi {es : List (List L)} {f n p : Int} (hp : 0 <= p) : ∀ k : Nat, k <= es.length -> giI (rmS es f n k) p 0 = giI es p 0 /\ giI (rmS es f n k) p 1 = if p < k /\ giI es p 0 ≠ 0 /\ giI es p 1 = f then n else giI es p 1
 | 0, _ => ⟨rfl, by rw [if_neg (by omega)]; rfl⟩
 | k + 1, hk => by
   obtain ⟨a, b⟩ := rm_gi (es := es) (f := f) (n := n) hp k (by omega)
   by_cases c : giI es k 0 ≠ 0 /\ giI es k 1 = f
   ·rw [rmS, if_pos c]
    obtain ⟨x, y⟩ := rwE_gi (es := rmS es f n k) (k := k) (n := n) (p := p) (by omega) (by rw [rmS_len]; omega) hp
    rw [x, y, a, b]
    refine ⟨rfl, ?_⟩
    by_cases e : p = k
    ·subst e; rw [if_pos rfl, if_pos ⟨by omega, c⟩]
    ·rw [if_neg e]
     by_cases d : p < k /\ giI es p 0 ≠ 0 /\ giI es p 1 = f
     ·rw [if_pos d, if_pos ⟨by omega, d.2⟩]
     ·rw [if_neg d, if_neg (fun q => d ⟨by omega, q.2⟩)]
   ·rw [rmS, if_neg c, a, b]
    refine ⟨rfl, ?_⟩
    by_cases d : p < k /\ giI es p 0 ≠ 0 /\ giI es p 1 = f
    ·rw [if_pos d, if_pos ⟨by omega, d.2⟩]
    ·rw [if_neg d, if_neg (fun q => d ⟨?_, q.2⟩)]
     by_cases e : p = k
     ·subst e; exact absurd q.2 c
     ·omega
theorem rm_all {es : List (List L)} {f n p : Int} (hp : 0 <= p) (h1 : p < es.length) : giI (rmS es f n es.length) p 0 = giI es p 0 /\ giI (rmS es f n es.length) p 1 = if giI es p 0 ≠ 0 /\ giI es p 1 = f then n else giI es p 1 := by
 obtain ⟨a, b⟩ := rm_gi (es := es) (f := f) (n := n) hp es.length (Nat.le_refl _)
 refine ⟨a, b.trans ?_⟩
 by_cases c : giI es p 0 ≠ 0 /\ giI es p 1 = f
 ·rw [if_pos ⟨h1, c⟩, if_pos c]
 ·rw [if_neg (fun q => c q.2), if_neg c]
structure FrP (C U : List (List L)) : Prop where
 n : 1 <= C.length /\ C.length <= 32
 u : U.length = C.length
 row : ∀ f : Int, 0 <= f -> f < C.length -> (gsI C f 0).length = 16 /\ ∀ x : Int, 0 <= x -> x < 16 -> 0 <= giI (gsI C f 0) x 0 /\ giI (gsI C f 0) x 0 <= 999 /\ (gbI U f 0 = false -> giI (gsI C f 0) x 0 = 0)
theorem FrP.of {C U : List (List L)} (h : framesOk C U = true) : FrP C U := by
 have l := fr_len h
 refine ⟨by omega, l.1, fun f f0 f1 => ⟨fr_at h f0 f1, fun x x0 x1 => ?_⟩⟩
 unfold framesOk at h
 simp only [Bool.and_eq_true] at h
 have q := allI_t.1 h.2 f f0 f1
 unfold frameOk at q
 simp only [Bool.and_eq_true] at q
 have w := allI_t.1 q.2 x x0 x1
 unfold cellOk at w
 simp only [Bool.and_eq_true, inR_t, Bool.or_eq_true, decide_eq_true_eq] at w
 exact ⟨w.1.1, w.1.2, fun e => by rcases w.2 with q | q; rw [e] at q; cases q; exact q⟩
theorem FrP.ok {C U : List (List L)} (h : FrP C U) : framesOk C U = true := by
 refine fr_yes (i := C.length) (inR_t.2 (by have := h.n; omega)) h.u (fun f f0 f1 => ?_) (by omega)
 have q := h.row f f0 f1
 refine fr_in (k := 16) q.1 (fun x x0 x1 => ?_) (by omega)
 have w := q.2 x x0 x1
 refine ce_in (inR_t.2 ⟨w.1, w.2.1⟩) ?_
 cases c : gbI U f 0
 ·exact .inr (w.2.2 c)
 ·exact .inl rfl
structure CowP (C U A B : List (List L)) : Prop where
 fr : FrP C U
 ta : tableOk A C.length = true
 tb : tableOk B C.length = true
 le : A.length = B.length
 us : ∀ i : Int, 0 <= i -> i < C.length -> gbI U i 0 = (mapsB A i || mapsB B i)
theorem CowP.symm {C U A B : List (List L)} (h : CowP C U A B) : CowP C U B A := ⟨h.fr, h.tb, h.ta, h.le.symm, fun i h0 h1 => by rw [h.us i h0 h1, Bool.or_comm]⟩
theorem CowP.of {C U T : List (List L)} (h : cowOk C U T = true) : CowP C U (gsI T 0 0) (gsI T 1 0) := by
 obtain ⟨q1, q2, q3, q4, q5, q6⟩ := co_ok h
 exact ⟨FrP.of q1, q3, q4, q5, q6⟩
theorem CowP.ok {C U T : List (List L)} (h : CowP C U (gsI T 0 0) (gsI T 1 0)) (hl : T.length = 2) : cowOk C U T = true :=
 co_yes (i := C.length) h.fr.ok hl h.ta h.tb h.le (fun i h0 h1 => co_in (h.us i h0 h1)) (by omega)
theorem st_row {C : List (List L)} {f x v j : Int} (h0 : 0 <= f) (h1 : f < C.length) (hj : 0 <= j) : gsI (stNew C f x v) j 0 = if j = f then (gsI C f 0).set x.toNat [.v (.int .i64 v)] else gsI C j 0 := by
 unfold stNew
 rw [gS_set h0 h1 hj]; rfl
theorem st_cell {r : List (List L)} {x v y : Int} (hl : r.length = 16) (h0 : 0 <= x) (h1 : x < 16) (hy : 0 <= y) : giI (r.set x.toNat [.v (.int .i64 v)]) y 0 = if y = x then v else giI r y 0 := by
 rw [gI_set h0 (by omega) hy]; rfl
theorem fr_store {C U : List (List L)} {f x v : Int} (h : FrP C U) (h0 : 0 <= f) (h1 : f < C.length) (hu : gbI U f 0 = true) (x0 : 0 <= x) (x1 : x < 16) (v0 : 0 <= v) (v1 : v <= 999) : FrP (stNew C f x v) U := by
 refine ⟨by rw [stNew_len]; exact h.n, by rw [stNew_len]; exact h.u, fun j j0 j1 => ?_⟩
 rw [stNew_len] at j1
 rw [st_row h0 h1 j0]
 have q := h.row f h0 h1
 by_cases e : j = f
 ·subst e
  rw [if_pos rfl]
  refine ⟨by rw [List.length_set]; exact q.1, fun y y0 y1 => ?_⟩
  rw [st_cell q.1 x0 x1 y0]
  split
  ·exact ⟨v0, v1, fun e => by rw [hu] at e; cases e⟩
  ·have w := q.2 y y0 y1; exact ⟨w.1, w.2.1, fun e => by rw [hu] at e; cases e⟩
 ·rw [if_neg e]; exact h.row j j0 j1
theorem cow_plain {C U A B : List (List L)} {f x v : Int} (h : CowP C U A B) (h0 : 0 <= f) (h1 : f < C.length) (hu : gbI U f 0 = true) (x0 : 0 <= x) (x1 : x < 16) (v0 : 0 <= v) (v1 : v <= 999) : CowP (stNew C f x v) U A B :=
 ⟨fr_store h.fr h0 h1 hu x0 x1 v0 v1, by rw [stNew_len]; exact h.ta, by rw [stNew_len]; exact h.tb, h.le, fun i i0 i1 => h.us i i0 (by rw [stNew_len] at i1; exact i1)⟩
def cpN (C : List (List L)) (f i : Int) : List (List L) := C.set i.toNat [.s 1 (gsI C f 0)]
theorem cpN_len {C : List (List L)} {f i : Int} : (cpN C f i).length = C.length := by unfold cpN; rw [List.length_set]
theorem cpN_row {C : List (List L)} {f i j : Int} (h0 : 0 <= i) (h1 : i < C.length) (hj : 0 <= j) : gsI (cpN C f i) j 0 = if j = i then gsI C f 0 else gsI C j 0 := by
 unfold cpN; rw [gS_set h0 h1 hj]; rfl
theorem fr_copy {C U : List (List L)} {f i : Int} (h : FrP C U) (f0 : 0 <= f) (f1 : f < C.length) (h0 : 0 <= i) (h1 : i < C.length) : FrP (cpN C f i) (U.set i.toNat [.v (.bool true)]) := by
 refine ⟨by rw [cpN_len]; exact h.n, by rw [cpN_len, List.length_set]; exact h.u, fun j j0 j1 => ?_⟩
 rw [cpN_len] at j1
 have hu := h.u
 rw [cpN_row h0 h1 j0, gB_set h0 (by omega) j0]
 by_cases e : j = i
 ·rw [if_pos e, if_pos e]
  have q := h.row f f0 f1
  refine ⟨q.1, fun x x0 x1 => ?_⟩
  have w := q.2 x x0 x1
  exact ⟨w.1, w.2.1, fun e => by cases e⟩
 ·rw [if_neg e, if_neg e]; exact h.row j j0 j1
theorem tb_gi {es : List (List L)} {n i : Int} (h : tableOk es n = true) (h0 : 0 <= i) (h1 : i < es.length) : 0 <= giI es i 0 /\ giI es i 0 <= 2 /\ (giI es i 0 = 0 -> giI es i 1 = 0) /\ (0 < giI es i 0 -> 0 <= giI es i 1 /\ giI es i 1 < n) := tb_at h h0 h1
theorem tb_move {A : List (List L)} {n : Nat} {f i : Int} (h : tableOk A n = true) (h0 : 0 <= i) (h1 : i < n) : tableOk (rmS A f i A.length) n = true := by
 have l := tb_len h
 rw [tb_yes (i := A.length) (fun p p0 p1 => tb_in ?_) (by rw [rmS_len]; omega)]
 ·rw [rmS_len]; exact inR_t.2 (by omega)
 ·have q := tb_gi h p0 p1
  obtain ⟨a, b⟩ := rm_all (f := f) (n := i) p0 p1
  rw [a, b]
  refine ⟨q.1, q.2.1, fun e => ?_, fun e => ?_⟩
  ·rw [if_neg (fun c => c.1 e)]; exact q.2.2.1 e
  ·split
   ·exact ⟨h0, h1⟩
   ·exact q.2.2.2 e
theorem maps_move {A : List (List L)} {f i j : Int} (hf : mapsB A f = true) (hi : mapsB A i = false) (hne : f ≠ i) : mapsB (rmS A f i A.length) j = if j = i then true else if j = f then false else mapsB A j := by
 have fwd : ∀ p : Int, 0 <= p -> p < A.length -> giI A p 0 ≠ 0 -> giI (rmS A f i A.length) p 1 = if giI A p 1 = f then i else giI A p 1 := by
  intro p p0 p1 m
  rw [(rm_all (f := f) (n := i) p0 p1).2]
  by_cases c : giI A p 1 = f
  ·rw [if_pos ⟨m, c⟩, if_pos c]
  ·rw [if_neg (fun q => c q.2), if_neg c]
 by_cases e : j = i
 ·rw [if_pos e, e]
  obtain ⟨p, p0, p1, p2, p3⟩ := maps_iff.1 hf
  refine maps_iff.2 ⟨p, p0, by rw [rmS_len]; exact p1, by rw [(rm_all p0 p1).1]; exact p2, ?_⟩
  rw [fwd p p0 p1 p2, if_pos p3]
 ·rw [if_neg e]
  by_cases d : j = f
  ·rw [if_pos d, d]
   refine maps_ff.2 (fun p p0 p1 p2 => ?_)
   rw [rmS_len] at p1
   rw [(rm_all p0 p1).1] at p2
   rw [fwd p p0 p1 p2]
   split
   ·exact fun c => hne c.symm
   ·assumption
  ·rw [if_neg d]
   refine b_iff ?_
   rw [maps_iff, maps_iff]
   constructor
   ·rintro ⟨p, p0, p1, p2, p3⟩
    rw [rmS_len] at p1
    rw [(rm_all p0 p1).1] at p2
    rw [fwd p p0 p1 p2] at p3
    split at p3
    ·exact absurd p3.symm e
    ·exact ⟨p, p0, p1, p2, p3⟩
   ·rintro ⟨p, p0, p1, p2, p3⟩
    refine ⟨p, p0, by rw [rmS_len]; exact p1, by rw [(rm_all p0 p1).1]; exact p2, ?_⟩
    rw [fwd p p0 p1 p2, if_neg (by rw [p3]; exact d), p3]
theorem cow_copy {C U A B : List (List L)} {f i : Int} (h : CowP C U A B) (f0 : 0 <= f) (f1 : f < C.length) (hA : mapsB A f = true) (hB : mapsB B f = true) (h0 : 0 <= i) (h1 : i < C.length) (hu : gbI U i 0 = false) :
 CowP (cpN C f i) (U.set i.toNat [.v (.bool true)]) (rmS A f i A.length) B := by
 have hi := h.us i h0 h1
 rw [hu] at hi
 have hiA : mapsB A i = false := by cases q : mapsB A i; rfl; rw [q] at hi; cases hi
 have hiB : mapsB B i = false := by rw [hiA] at hi; exact hi.symm
 have hne : f ≠ i := by intro e; rw [e, hiA] at hA; cases hA
 have hul := h.fr.u
 refine ⟨fr_copy h.fr f0 f1 h0 h1, by rw [cpN_len]; exact tb_move h.ta h0 h1, by rw [cpN_len]; exact h.tb, by rw [rmS_len]; exact h.le, fun j j0 j1 => ?_⟩
 rw [cpN_len] at j1
 rw [gB_set h0 (by omega) j0, maps_move hA hiA hne]
 by_cases e : j = i
 ·rw [if_pos e, if_pos e]; rfl
 ·rw [if_neg e, if_neg e]
  by_cases d : j = f
  ·rw [if_pos d, h.us j j0 j1, d, hA, hB]; rfl
  ·rw [if_neg d, h.us j j0 j1]
end Go.V