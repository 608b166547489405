/-
  A fork and two machines that behave like it.
-/
import Derived.Test.YtbfhhmjhdimjlaaH30
set_option linter.all false
namespace Go.V
structure Rl (C W D E : List (List L)) : Prop where
 len : W.length = E.length
 md : ∀ p : Int, 0 <= p -> p < E.length -> giI W p 0 = giI E p 0
 cel : ∀ p x : Int, 0 <= p -> p < E.length -> giI E p 0 ≠ 0 -> 0 <= x -> x < 16 -> giI (gsI C (giI W p 1) 0) x 0 = giI (gsI D (giI E p 1) 0) x 0
 inj : ∀ p q : Int, 0 <= p -> p < E.length -> 0 <= q -> q < E.length -> giI E p 0 ≠ 0 -> giI E q 0 ≠ 0 -> (giI W p 1 = giI W q 1 ↔ giI E p 1 = giI E q 1)
theorem Rl.refl {C E : List (List L)} : Rl C E C E := ⟨rfl, fun _ _ _ => rfl, fun _ _ _ _ _ _ _ => rfl, fun _ _ _ _ _ _ _ _ => Iff.rfl⟩
theorem Rl.other {C W D E : List (List L)} {f x v : Int} (h : Rl C W D E) (f0 : 0 <= f) (f1 : f < C.length) (hW : mapsB W f = false) (hr : ∀ p : Int, 0 <= p -> p < W.length -> giI W p 0 ≠ 0 -> 0 <= giI W p 1) : Rl (stNew C f x v) W D E := by
 refine ⟨h.len, h.md, fun p y p0 p1 m y0 y1 => ?_, h.inj⟩
 have m' : giI W p 0 ≠ 0 := by rw [h.md p p0 p1]; exact m
 have p1' : p < W.length := by rw [h.len]; exact p1
 rw [st_row f0 f1 (hr p p0 p1' m'), if_neg (maps_ff.1 hW p p0 p1' m')]
 exact h.cel p y p0 p1 m y0 y1
theorem Rl.copy {C W D E : List (List L)} {f i : Int} (h : Rl C W D E) (i0 : 0 <= i) (i1 : i < C.length) (hW : mapsB W i = false) (hr : ∀ p : Int, 0 <= p -> p < W.length -> giI W p 0 ≠ 0 -> 0 <= giI W p 1) : Rl (cpN C f i) W D E := by
 refine ⟨h.len, h.md, fun p y p0 p1 m y0 y1 => ?_, h.inj⟩
 have m' : giI W p 0 ≠ 0 := by rw [h.md p p0 p1]; exact m
 have p1' : p < W.length := by rw [h.len]; exact p1
 rw [cpN_row i0 i1 (hr p p0 p1' m'), if_neg (maps_ff.1 hW p p0 p1' m')]
 exact h.cel p y p0 p1 m y0 y1
theorem Rl.move {C W D E : List (List L)} {f i : Int} (h : Rl C W D E) (i0 : 0 <= i) (i1 : i < C.length) (hW : mapsB W i = false) (hr : ∀ p : Int, 0 <= p -> p < W.length -> giI W p 0 ≠ 0 -> 0 <= giI W p 1) : Rl (cpN C f i) (rmS W f i W.length) D E := by
 have g : ∀ p : Int, 0 <= p -> p < E.length -> giI E p 0 ≠ 0 -> giI (rmS W f i W.length) p 1 = if giI W p 1 = f then i else giI W p 1 := by
  intro p p0 p1 m
  rw [(rm_all p0 (by rw [h.len]; exact p1)).2]
  have m' : giI W p 0 ≠ 0 := by rw [h.md p p0 p1]; exact m
  by_cases c : giI W p 1 = f
  ·rw [if_pos ⟨m', c⟩, if_pos c]
  ·rw [if_neg (fun q => c q.2), if_neg c]
 have hi : ∀ p : Int, 0 <= p -> p < E.length -> giI E p 0 ≠ 0 -> giI W p 1 ≠ i := fun p p0 p1 m => maps_ff.1 hW p p0 (by rw [h.len]; exact p1) (by rw [h.md p p0 p1]; exact m)
 refine ⟨by rw [rmS_len]; exact h.len, fun p p0 p1 => by rw [(rm_all p0 (by rw [h.len]; exact p1)).1]; exact h.md p p0 p1, fun p y p0 p1 m y0 y1 => ?_, fun p q p0 p1 q0 q1 mp mq => ?_⟩
 ·have m' : giI W p 0 ≠ 0 := by rw [h.md p p0 p1]; exact m
  have nn := hr p p0 (by rw [h.len]; exact p1) m'
  rw [g p p0 p1 m, <- h.cel p y p0 p1 m y0 y1]
  by_cases c : giI W p 1 = f
  ·rw [if_pos c, cpN_row i0 i1 i0, if_pos rfl, c]
  ·rw [if_neg c, cpN_row i0 i1 nn, if_neg (hi p p0 p1 m)]
 ·rw [g p p0 p1 mp, g q q0 q1 mq, <- h.inj p q p0 p1 q0 q1 mp mq]
  have a := hi p p0 p1 mp
  have b := hi q q0 q1 mq
  by_cases c : giI W p 1 = f <;> by_cases d : giI W q 1 = f
  ·rw [if_pos c, if_pos d, c, d]; exact ⟨fun _ => rfl, fun _ => rfl⟩
  ·rw [if_pos c, if_neg d, c]; exact ⟨fun e => absurd e.symm b, fun e => absurd e.symm d⟩
  ·rw [if_neg c, if_pos d, d]; exact ⟨fun e => absurd e a, fun e => absurd e c⟩
  ·rw [if_neg c, if_neg d]
theorem Rl.store {C W D E : List (List L)} {p x v : Int} (h : Rl C W D E) (p0 : 0 <= p) (p1 : p < E.length) (m : giI E p 0 ≠ 0) (x0 : 0 <= x) (x1 : x < 16) 
 (f0 : 0 <= giI W p 1) (f1 : giI W p 1 < C.length) (g0 : 0 <= giI E p 1) (g1 : giI E p 1 < D.length) (lC : (gsI C (giI W p 1) 0).length = 16) (lD : (gsI D (giI E p 1) 0).length = 16)
 (hr : ∀ p : Int, 0 <= p -> p < W.length -> giI W p 0 ≠ 0 -> 0 <= giI W p 1) (hs : ∀ p : Int, 0 <= p -> p < E.length -> giI E p 0 ≠ 0 -> 0 <= giI E p 1) :
 Rl (stNew C (giI W p 1) x v) W (stNew D (giI E p 1) x v) E := by
 refine ⟨h.len, h.md, fun q y q0 q1 mq y0 y1 => ?_, h.inj⟩
 have mq' : giI W q 0 ≠ 0 := by rw [h.md q q0 q1]; exact mq
 have a := hr q q0 (by rw [h.len]; exact q1) mq'
 have b := hs q q0 q1 mq
 have ij := h.inj q p q0 q1 p0 p1 mq m
 rw [st_row f0 f1 a, st_row g0 g1 b]
 by_cases c : giI W q 1 = giI W p 1
 ·rw [if_pos c, if_pos (ij.1 c), st_cell lC x0 x1 y0, st_cell lD x0 x1 y0]
  split
  ·rfl
  ·exact h.cel p y p0 p1 m y0 y1
 ·rw [if_neg c, if_neg (fun e => c (ij.2 e))]
  exact h.cel q y q0 q1 mq y0 y1
end Go.V