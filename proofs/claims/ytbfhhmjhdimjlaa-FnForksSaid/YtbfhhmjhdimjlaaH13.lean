/-
  What the cursor of the draws computes, in plain words.
-/
import Derived.Test.YtbfhhmjhdimjlaaH12
set_option linter.all false
namespace Go.V
def tU : Ty := .int .u8
theorem and_bound {a : Int} {m : Nat} (hm : m <= 4611686018427387904) : 0 <= arI .and .i64 a m /\ arI .and .i64 a m <= m := by
 have h1 : (BitVec.ofInt 64 a &&& BitVec.ofInt 64 (m : Int)).toNat <= m := by
  rw [BitVec.toNat_and]
  refine Nat.le_trans Nat.and_le_right ?_
  rw [BitVec.toNat_ofInt, Int.emod_eq_of_lt (by omega) (by omega)]
  omega
 have h2 : arI .and .i64 a m = ((BitVec.ofInt 64 a &&& BitVec.ofInt 64 (m : Int)).toNat : Int) := by
  show IntKind.wrap .i64 _ = _
  refine IntWalk.i64_in _ ⟨?_, ?_⟩
  ·exact Int.le_trans (by decide) (Int.natCast_nonneg _)
  ·exact Int.le_trans (Int.ofNat_le.2 h1) (by omega)
 rw [h2]
 omega
def bH (h : Int) : Int := arI .add .i64 (arI .mul .i64 h 6364136223846793005) 1442695040888963407
def bY (h : Int) : Int := arI .and .i64 (arI .xor .i64 (shI .shr .i64 (bH h) 33) (shI .shr .i64 (bH h) 45)) 255
def bI (cs : List (List L)) (i : Int) : Int := if i < cs.length then i + 1 else i
def bX (cs : List (List L)) (i h : Int) : Int := if i < cs.length then arI .and .i64 (arI .add .i64 (bY h) (wrI .i64 (giI cs i 0))) 255 else bY h
theorem b_yes {cs : List (List L)} {i h : Int} (q : i < cs.length) : bI cs i = i + 1 /\ bX cs i h = arI .and .i64 (arI .add .i64 (bY h) (wrI .i64 (giI cs i 0))) 255 := by unfold bI bX; rw [if_pos q, if_pos q]; exact ⟨rfl, rfl⟩
theorem b_no {cs : List (List L)} {i h : Int} (q : ¬ i < cs.length) : bI cs i = i /\ bX cs i h = bY h := by unfold bI bX; rw [if_neg q, if_neg q]; exact ⟨rfl, rfl⟩
theorem bI_ok {cs : List (List L)} {i : Int} (h0 : 0 <= i) (h1 : i <= cs.length) : 0 <= bI cs i /\ bI cs i <= cs.length := by unfold bI; split <;> omega
theorem bX_ok {cs : List (List L)} {i h : Int} : 0 <= bX cs i h /\ bX cs i h <= 255 := by
 unfold bX bY; split <;> exact and_bound (m := 255) (by decide)
def wI (cs : List (List L)) (i n : Int) : Int := if n <= 0 then i else if n <= 256 then bI cs i else bI cs (bI cs (bI cs (bI cs i)))
def wH (h n : Int) : Int := if n <= 0 then h else if n <= 256 then bH h else bH (bH (bH (bH h)))
def wS (x y z w : Int) : Int := arI .add .i64 (arI .add .i64 (arI .add .i64 (arI .mul .i64 x 16777216) (arI .mul .i64 y 65536)) (arI .mul .i64 z 256)) w
def wX (cs : List (List L)) (i h n : Int) : Int := if n <= 0 then 0 else if n <= 256 then arI .rem .i64 (bX cs i h) n else
 arI .rem .i64 (wS (bX cs i h) (bX cs (bI cs i) (bH h)) (bX cs (bI cs (bI cs i)) (bH (bH h))) (bX cs (bI cs (bI cs (bI cs i))) (bH (bH (bH h))))) n
theorem w_0 {cs : List (List L)} {i h n : Int} (q : n <= 0) : wI cs i n = i /\ wH h n = h /\ wX cs i h n = 0 := by unfold wI wH wX; rw [if_pos q, if_pos q, if_pos q]; exact ⟨rfl, rfl, rfl⟩
theorem w_1 {cs : List (List L)} {i h n : Int} (q : 0 < n) (q2 : n <= 256) : wI cs i n = bI cs i /\ wH h n = bH h /\ wX cs i h n = arI .rem .i64 (bX cs i h) n := by
 have q3 : ¬ n <= 0 := by omega
 unfold wI wH wX; simp only [if_neg q3, if_pos q2]; exact ⟨trivial, trivial, trivial⟩
theorem w_4 {cs : List (List L)} {i h n : Int} (q2 : 256 < n) : wI cs i n = bI cs (bI cs (bI cs (bI cs i))) /\ wH h n = bH (bH (bH (bH h))) /\
 wX cs i h n = arI .rem .i64 (wS (bX cs i h) (bX cs (bI cs i) (bH h)) (bX cs (bI cs (bI cs i)) (bH (bH h))) (bX cs (bI cs (bI cs (bI cs i))) (bH (bH (bH h))))) n := by
 have q3 : ¬ n <= 0 := by omega
 have q4 : ¬ n <= 256 := by omega
 unfold wI wH wX; simp only [if_neg q3, if_neg q4]; exact ⟨trivial, trivial, trivial⟩
theorem wI_ok {cs : List (List L)} {i n : Int} (h0 : 0 <= i) (h1 : i <= cs.length) : 0 <= wI cs i n /\ wI cs i n <= cs.length := by
 have a := bI_ok h0 h1
 have b := bI_ok a.1 a.2
 have c := bI_ok b.1 b.2
 have d := bI_ok c.1 c.2
 unfold wI; split
 ·exact ⟨h0, h1⟩
 ·split
  ·exact a
  ·exact d
theorem mul64 {a b : Int} (h : -9223372036854775808 <= a * b /\ a * b <= 9223372036854775807) : arI .mul .i64 a b = a * b := IntWalk.i64_in _ h
theorem rem_bound {a n : Int} (ha : 0 <= a) (hn : 0 < n) : 0 <= arI .rem .i64 a n /\ arI .rem .i64 a n < n := by
 show 0 <= a.tmod n /\ a.tmod n < n
 rw [Int.tmod_eq_emod_of_nonneg ha]
 exact ⟨Int.emod_nonneg _ (by omega), Int.emod_lt_of_pos _ hn⟩
theorem wX_ok {cs : List (List L)} {i h n : Int} (hn : 0 < n) : 0 <= wX cs i h n /\ wX cs i h n < n := by
 unfold wX
 rw [if_neg (by omega)]
 split
 ·exact rem_bound bX_ok.1 hn
 ·have x := bX_ok (cs := cs) (i := i) (h := h)
  have y := bX_ok (cs := cs) (i := bI cs i) (h := bH h)
  have z := bX_ok (cs := cs) (i := bI cs (bI cs i)) (h := bH (bH h))
  have w := bX_ok (cs := cs) (i := bI cs (bI cs (bI cs i))) (h := bH (bH (bH h)))
  refine rem_bound ?_ hn
  generalize bX cs i h = x0 at *
  generalize bX cs (bI cs i) (bH h) = y0 at *
  generalize bX cs (bI cs (bI cs i)) (bH (bH h)) = z0 at *
  generalize bX cs (bI cs (bI cs (bI cs i))) (bH (bH (bH h))) = w0 at *
  unfold wS
  have m1 : arI .mul .i64 x0 16777216 = x0 * 16777216 := mul64 (by omega)
  have m2 : arI .mul .i64 y0 65536 = y0 * 65536 := mul64 (by omega)
  have m3 : arI .mul .i64 z0 256 = z0 * 256 := mul64 (by omega)
  rw [m1, m2, m3]
  have a1 : arI .add .i64 (x0 * 16777216) (y0 * 65536) = x0 * 16777216 + y0 * 65536 := add64 (by omega)
  rw [a1]
  have a2 : arI .add .i64 (x0 * 16777216 + y0 * 65536) (z0 * 256) = x0 * 16777216 + y0 * 65536 + z0 * 256 := add64 (by omega)
  rw [a2]
  have a3 : arI .add .i64 (x0 * 16777216 + y0 * 65536 + z0 * 256) w0 = x0 * 16777216 + y0 * 65536 + z0 * 256 + w0 := add64 (by omega)
  rw [a3]
  omega
def l01hN (cs : List (List L)) : Nat -> Int
 | 0 => arI .add .i64 98801 cs.length
 | n + 1 => arI .and .i64 (arI .add .i64 (arI .add .i64 (arI .mul .i64 (l01hN cs n) 131) (wrI .i64 (giI cs n 0))) 7) 1073741823
def l01h (cs : List (List L)) : Int := l01hN cs (min cs.length 4000)
theorem l01h_up {cs : List (List L)} {i : Int} (h0 : 0 <= i) : l01hN cs (i + 1).toNat = arI .and .i64 (arI .add .i64 (arI .add .i64 (arI .mul .i64 (l01hN cs i.toNat) 131) (wrI .i64 (giI cs i 0))) 7) 1073741823 := by
 have e : ((i.toNat : Nat) : Int) = i := Int.toNat_of_nonneg h0
 rw [show (i + 1).toNat = i.toNat + 1 by omega, l01hN, e]
theorem l01h_end {cs : List (List L)} {i : Int} (h0 : 0 <= i) (h1 : i <= cs.length) (h2 : i <= 4000) (h3 : ¬ (i < cs.length /\ i < 4000)) : l01hN cs i.toNat = l01h cs := by
 unfold l01h; congr 1; omega
def dpS (cs : List (List L)) (s : Int × Int × List (List L)) : Int × Int × List (List L) := (wI cs s.1 10000, wH s.2.1 10000, s.2.2 ++ [[.v (.int .i64 (wX cs s.1 s.2.1 10000))]])
def dpN (cs : List (List L)) : Nat -> Int × Int × List (List L)
 | 0 => (0, l01h cs, [])
 | n + 1 => dpS cs (dpN cs n)
def dpl (cs : List (List L)) : List (List L) := (dpN cs 12).2.2
theorem dp_up {cs : List (List L)} {i : Int} (h0 : 0 <= i) : dpN cs (i + 1).toNat = dpS cs (dpN cs i.toNat) := by
 rw [show (i + 1).toNat = i.toNat + 1 by omega, dpN]
theorem dp_ok {cs : List (List L)} : ∀ n, 0 <= (dpN cs n).1 /\ (dpN cs n).1 <= cs.length /\ (dpN cs n).2.2.length = n /\ ∀ j : Nat, j < n -> ∃ x : Int, 0 <= x /\ x < 10000 /\ (dpN cs n).2.2.getD j [] = [.v (.int .i64 x)]
 | 0 => ⟨Int.le_refl _, by show (0 : Int) <= _; omega, rfl, fun j hj => by omega⟩
 | n + 1 => by
   obtain ⟨h1, h2, h3, h4⟩ := dp_ok (cs := cs) n
   have w := wI_ok (n := 10000) h1 h2
   have x := wX_ok (cs := cs) (i := (dpN cs n).1) (h := (dpN cs n).2.1) (n := 10000) (by omega)
   refine ⟨w.1, w.2, by simp [dpN, dpS, h3], fun j hj => ?_⟩
   simp only [dpN, dpS]
   by_cases c : j < n
   ·obtain ⟨y, q1, q2, q3⟩ := h4 j c
    refine ⟨y, q1, q2, ?_⟩
    rw [List.getD_eq_getElem?_getD, List.getElem?_append_left (by omega), <- List.getD_eq_getElem?_getD]; exact q3
   ·refine ⟨_, x.1, x.2, ?_⟩
    have e : j = (dpN cs n).2.2.length := by omega
    rw [List.getD_eq_getElem?_getD, e]; simp
theorem dpl_len {cs : List (List L)} : (dpl cs).length = 12 := (dp_ok 12).2.2.1
theorem dpl_at {cs : List (List L)} {j : Int} (h0 : 0 <= j) (h1 : j < 12) : 0 <= giI (dpl cs) j 0 /\ giI (dpl cs) j 0 < 10000 /\ (dpl cs).getD j.toNat [] = [.v (.int .i64 (giI (dpl cs) j 0))] := by
 obtain ⟨x, q1, q2, q3⟩ := (dp_ok (cs := cs) 12).2.2.2 j.toNat (by omega)
 have e : giI (dpl cs) j 0 = x := by unfold giI dpl; rw [q3]; rfl
 rw [e]; exact ⟨q1, q2, q3⟩
theorem dpl_rw {cs : List (List L)} : Rw [tI] (dpl cs) := by
 refine ⟨by rw [dpl_len]; decide, fun e he => ?_⟩
 obtain ⟨j, hj⟩ := List.getElem?_of_mem he
 have hl : j < 12 := by rw [<- dpl_len (cs := cs)]; exact (List.getElem?_eq_some_iff.1 hj).1
 obtain ⟨h1, h2, h3⟩ := dpl_at (cs := cs) (j := j) (by omega) (by omega)
 rw [Int.toNat_natCast, List.getD_eq_getElem?_getD, hj] at h3
 have h3 : e = _ := h3
 rw [h3]
 have hh : IntKind.has .i64 (giI (dpl cs) (j : Int) 0) := by show -9223372036854775808 <= _ /\ _ <= (9223372036854775807 : Int); omega
 exact ⟨⟨rfl, hh⟩, trivial⟩
end Go.V