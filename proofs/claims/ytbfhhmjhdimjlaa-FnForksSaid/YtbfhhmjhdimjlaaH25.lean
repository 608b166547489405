/-
  A drawn machine, in plain words.
-/
import Derived.Test.YtbfhhmjhdimjlaaH12
import Derived.Test.YtbfhhmjhdimjlaaH13
set_option linter.all false
namespace Go.V
theorem gI_set {es : List (List L)} {n i : Int} {j : Nat} {r : (List L)} (h0 : 0 <= n) (h1 : n < es.length) (hi : 0 <= i) : giI (es.set n.toNat r) i j = if i = n then lfI (r.getD j .g) else giI es i j := by
 unfold giI
 rw [List.getD_eq_getElem?_getD, List.getD_eq_getElem?_getD, List.getElem?_set]
 by_cases c : i = n
 ·subst c; rw [if_pos rfl, if_pos rfl, if_pos (by omega)]; rfl
 ·rw [if_neg (by omega), if_neg c]; rfl
theorem gB_set {es : List (List L)} {n i : Int} {j : Nat} {r : (List L)} (h0 : 0 <= n) (h1 : n < es.length) (hi : 0 <= i) : gbI (es.set n.toNat r) i j = if i = n then lfB (r.getD j .g) else gbI es i j := by
 unfold gbI
 rw [List.getD_eq_getElem?_getD, List.getD_eq_getElem?_getD, List.getElem?_set]
 by_cases c : i = n
 ·subst c; rw [if_pos rfl, if_pos rfl, if_pos (by omega)]; rfl
 ·rw [if_neg (by omega), if_neg c]; rfl
theorem gS_set {es : List (List L)} {n i : Int} {j : Nat} {r : (List L)} (h0 : 0 <= n) (h1 : n < es.length) (hi : 0 <= i) : gsI (es.set n.toNat r) i j = if i = n then lfS (r.getD j .g) else gsI es i j := by
 unfold gsI
 rw [List.getD_eq_getElem?_getD, List.getD_eq_getElem?_getD, List.getElem?_set]
 by_cases c : i = n
 ·subst c; rw [if_pos rfl, if_pos rfl, if_pos (by omega)]; rfl
 ·rw [if_neg (by omega), if_neg c]; rfl
def zEn : (List L) := [.v (.int .i64 0), .v (.int .i64 0)]
def enN (cs : List (List L)) (fr : Int) : Nat -> Int -> Int -> List (List L) × Int × Int
 | 0, i, h => ([], i, h)
 | n + 1, i, h =>
   if wX cs i h 3 = 0 then (zEn :: (enN cs fr n (wI cs i 3) (wH h 3)).1, (enN cs fr n (wI cs i 3) (wH h 3)).2)
   else ([.v (.int .i64 (1 + wX cs (wI cs i 3) (wH h 3) 2)), .v (.int .i64 (wX cs (wI cs (wI cs i 3) 2) (wH (wH h 3) 2) fr))] ::
    (enN cs fr n (wI cs (wI cs (wI cs i 3) 2) fr) (wH (wH (wH h 3) 2) fr)).1, (enN cs fr n (wI cs (wI cs (wI cs i 3) 2) fr) (wH (wH (wH h 3) 2) fr)).2)
def enL (cs : List (List L)) (i h : Int) : Int := 1 + wX cs i h 8
def tcE (cs : List (List L)) (fr i h : Int) : List (List L) := (enN cs fr (enL cs i h).toNat (wI cs i 8) (wH h 8)).1
def tcI (cs : List (List L)) (fr i h : Int) : Int := (enN cs fr (enL cs i h).toNat (wI cs i 8) (wH h 8)).2.1
def tcH (cs : List (List L)) (fr i h : Int) : Int := (enN cs fr (enL cs i h).toNat (wI cs i 8) (wH h 8)).2.2
theorem enL_b {cs : List (List L)} {i h : Int} : 1 <= enL cs i h /\ enL cs i h <= 8 := by
 have := wX_ok (cs := cs) (i := i) (h := h) (n := 8) (by omega)
 unfold enL; omega
def EnOk (fr : Int) (e : (List L)) : Prop := ∃ m f : Int, e = [.v (.int .i64 m), .v (.int .i64 f)] /\ 0 <= m /\ m <= 2 /\ (m = 0 -> f = 0) /\ (0 < m -> 0 <= f /\ f < fr)
theorem enN_ok {cs : List (List L)} {fr : Int} (hf : 0 < fr) : ∀ (n : Nat) (i h : Int), 0 <= i -> i <= cs.length -> (enN cs fr n i h).1.length = n /\ (∀ e ∈ (enN cs fr n i h).1, EnOk fr e) /\ 0 <= (enN cs fr n i h).2.1 /\ (enN cs fr n i h).2.1 <= cs.length
 | 0, i, h, h0, h1 => ⟨rfl, (fun e he => by cases he), h0, h1⟩
 | n + 1, i, h, h0, h1 => by
   have a := wI_ok (cs := cs) (n := 3) h0 h1
   have b := wI_ok (cs := cs) (n := 2) a.1 a.2
   have c := wI_ok (cs := cs) (n := fr) b.1 b.2
   unfold enN
   split
   ·obtain ⟨q1, q2, q3⟩ := enN_ok hf n (wI cs i 3) (wH h 3) a.1 a.2
    refine ⟨by simp only [List.length_cons, q1], fun e he => ?_, q3⟩
    rcases List.mem_cons.1 he with rfl | he
    ·exact ⟨0, 0, rfl, by omega, by omega, fun _ => rfl, fun h => by omega⟩
    ·exact q2 e he
   ·obtain ⟨q1, q2, q3⟩ := enN_ok hf n (wI cs (wI cs (wI cs i 3) 2) fr) (wH (wH (wH h 3) 2) fr) c.1 c.2
    refine ⟨by simp only [List.length_cons, q1], fun e he => ?_, q3⟩
    rcases List.mem_cons.1 he with rfl | he
    ·have x := wX_ok (cs := cs) (i := wI cs i 3) (h := wH h 3) (n := 2) (by omega)
     have y := wX_ok (cs := cs) (i := wI cs (wI cs i 3) 2) (h := wH (wH h 3) 2) (n := fr) hf
     exact ⟨_, _, rfl, by omega, by omega, fun h => by omega, fun _ => y⟩
    ·exact q2 e he
structure EnSt (cs : List (List L)) (fr i0 h0 k a b : Int) (o : List (List L)) : Prop where
 q : 0 <= a /\ a <= cs.length /\ (o.length : Int) = enL cs i0 h0 /\ o.drop k.toNat = List.replicate ((enL cs i0 h0).toNat - k.toNat) zEn /\
  tcE cs fr i0 h0 = o.take k.toNat ++ (enN cs fr ((enL cs i0 h0).toNat - k.toNat) a b).1 /\ (enN cs fr ((enL cs i0 h0).toNat - k.toNat) a b).2 = (tcI cs fr i0 h0, tcH cs fr i0 h0)
theorem enSt_0 {cs : List (List L)} {fr i0 h0 : Int} (h1 : 0 <= i0) (h2 : i0 <= cs.length) : EnSt cs fr i0 h0 0 (wI cs i0 8) (wH h0 8) (List.replicate (enL cs i0 h0).toNat zEn) := by
 have a := wI_ok (cs := cs) (n := 8) h1 h2
 have l := enL_b (cs := cs) (i := i0) (h := h0)
 exact ⟨⟨a.1, a.2, by rw [List.length_replicate]; omega, by simp, by simp [tcE], by simp [tcI, tcH]⟩⟩
theorem take_set {o : List (List L)} {k : Int} {r : (List L)} (h0 : 0 <= k) (h1 : k < o.length) : (o.set k.toNat r).take (k + 1).toNat = o.take k.toNat ++ [r] /\ (o.set k.toNat r).drop (k + 1).toNat = o.drop (k + 1).toNat := by
 rw [show (k + 1).toNat = k.toNat + 1 from by omega]
 constructor
 ·rw [List.take_succ, List.take_set_of_le (Nat.le_refl _), List.getElem?_set_self (by omega)]; rfl
 ·exact List.drop_set_of_lt (by omega)
theorem enSt_no {cs : List (List L)} {fr i0 h0 k a b : Int} {o : List (List L)} (h : EnSt cs fr i0 h0 k a b o) (k0 : 0 <= k) (k1 : k < o.length) (hx : wX cs a b 3 = 0) : EnSt cs fr i0 h0 (k + 1) (wI cs a 3) (wH b 3) o := by
 obtain ⟨⟨q1, q2, q3, q4, q5, q6⟩⟩ := h
 have a1 := wI_ok (cs := cs) (n := 3) q1 q2
 have e : (enL cs i0 h0).toNat - k.toNat = ((enL cs i0 h0).toNat - (k + 1).toNat) + 1 := by omega
 have hz : o[k.toNat]? = some zEn := by
  have := congrArg (fun l => l[0]?) q4
  simp only [List.getElem?_drop, Nat.add_zero] at this
  rw [this, e]; rfl
 have ht : o.take (k + 1).toNat = o.take k.toNat ++ [zEn] := by
  rw [show (k + 1).toNat = k.toNat + 1 from by omega, List.take_succ, hz]; rfl
 have hd : o.drop (k + 1).toNat = (o.drop k.toNat).drop 1 := by rw [List.drop_drop]; congr 1; omega
 rw [e, enN, if_pos hx] at q5 q6
 refine ⟨⟨a1.1, a1.2, q3, ?_, ?_, q6⟩⟩
 ·rw [hd, q4, List.drop_replicate]; congr 1; omega
 ·rw [ht, List.append_assoc]; exact q5
theorem enSt_yes {cs : List (List L)} {fr i0 h0 k a b : Int} {o : List (List L)} (h : EnSt cs fr i0 h0 k a b o) (k0 : 0 <= k) (k1 : k < o.length) (hx : wX cs a b 3 ≠ 0) :
 EnSt cs fr i0 h0 (k + 1) (wI cs (wI cs (wI cs a 3) 2) fr) (wH (wH (wH b 3) 2) fr) (o.set k.toNat [.v (.int .i64 (1 + wX cs (wI cs a 3) (wH b 3) 2)), .v (.int .i64 (wX cs (wI cs (wI cs a 3) 2) (wH (wH b 3) 2) fr))]) := by
 obtain ⟨⟨q1, q2, q3, q4, q5, q6⟩⟩ := h
 have a1 := wI_ok (cs := cs) (n := 3) q1 q2
 have a2 := wI_ok (cs := cs) (n := 2) a1.1 a1.2
 have a3 := wI_ok (cs := cs) (n := fr) a2.1 a2.2
 have e : (enL cs i0 h0).toNat - k.toNat = ((enL cs i0 h0).toNat - (k + 1).toNat) + 1 := by omega
 obtain ⟨t1, t2⟩ := take_set (r := [.v (.int .i64 (1 + wX cs (wI cs a 3) (wH b 3) 2)), .v (.int .i64 (wX cs (wI cs (wI cs a 3) 2) (wH (wH b 3) 2) fr))]) k0 k1
 have hd : o.drop (k + 1).toNat = (o.drop k.toNat).drop 1 := by rw [List.drop_drop]; congr 1; omega
 rw [e, enN, if_neg hx] at q5 q6
 refine ⟨⟨a3.1, a3.2, by rw [List.length_set]; exact q3, ?_, ?_, q6⟩⟩
 ·rw [t2, hd, q4, List.drop_replicate]; congr 1; omega
 ·rw [t1, List.append_assoc]; exact q5
theorem enSt_end {cs : List (List L)} {fr i0 h0 k a b : Int} {o : List (List L)} (h : EnSt cs fr i0 h0 k a b o) (k1 : (o.length : Int) <= k) : o = tcE cs fr i0 h0 /\ a = tcI cs fr i0 h0 /\ b = tcH cs fr i0 h0 := by
 obtain ⟨⟨q1, q2, q3, q4, q5, q6⟩⟩ := h
 have e : (enL cs i0 h0).toNat - k.toNat = 0 := by omega
 rw [e] at q5 q6
 rw [List.take_of_length_le (by omega)] at q5
 have q6 : (a, b) = (tcI cs fr i0 h0, tcH cs fr i0 h0) := q6
 exact ⟨by rw [q5]; exact (List.append_nil _).symm, congrArg (·.1) q6, congrArg (·.2) q6⟩
theorem enSt_at {cs : List (List L)} {fr i0 h0 k a b : Int} {o : List (List L)} (h : EnSt cs fr i0 h0 k a b o) (k0 : 0 <= k) (k1 : k < o.length) : o.getD k.toNat [] = zEn := by
 obtain ⟨⟨q1, q2, q3, q4, q5, q6⟩⟩ := h
 have e : (enL cs i0 h0).toNat - k.toNat = ((enL cs i0 h0).toNat - (k + 1).toNat) + 1 := by omega
 have := congrArg (fun l => l[0]?) q4
 simp only [List.getElem?_drop, Nat.add_zero] at this
 rw [List.getD_eq_getElem?_getD, this, e]; rfl
theorem enSt_up {cs : List (List L)} {fr i0 h0 k a b x y : Int} {o : List (List L)} (h : EnSt cs fr i0 h0 k a b o) (k0 : 0 <= k) (k1 : k < o.length) : upI (.s 2 o) [(k.toNat, 0)] [.v (.int .i64 x), .v (.int .i64 y)] = o.set k.toNat [.v (.int .i64 x), .v (.int .i64 y)] :=
 upI_one (by rw [enSt_at h k0 k1]; rfl)
theorem enSt_get {cs : List (List L)} {fr i0 h0 k a b : Int} {o : List (List L)} (h : EnSt cs fr i0 h0 k a b o) (k0 : 0 <= k) (k1 : k < o.length) : ∃ rec j, getR (.s 2 o) [(k.toNat, 0)] = some (rec, j) /\ j + 2 <= rec.length := by
 have e := enSt_at h k0 k1
 rw [List.getD_eq_getElem?_getD, List.getElem?_eq_getElem (by omega)] at e
 refine ⟨zEn, 0, ?_, Nat.le_refl _⟩
 rw [getR_one, List.getElem?_eq_getElem (by omega)]
 exact congrArg (fun r => some (r, 0)) e
theorem tnE_eq {cs : List (List L)} {i h : Int} : tnE (arI .add .i64 1 (wX cs i h 8)) = List.replicate (enL cs i h).toNat zEn := by
 have l := enL_b (cs := cs) (i := i) (h := h)
 have e : arI .add .i64 1 (wX cs i h 8) = enL cs i h := add64 (by unfold enL at l; omega)
 rw [e]; exact (fn_yes (inR_t.2 (by omega))).2.2
theorem tc_ok {cs : List (List L)} {fr i h : Int} (hf : 0 < fr) (h0 : 0 <= i) (h1 : i <= cs.length) : ((tcE cs fr i h).length : Int) = enL cs i h /\ (∀ e ∈ tcE cs fr i h, EnOk fr e) /\ 0 <= tcI cs fr i h /\ tcI cs fr i h <= cs.length := by
 have a := wI_ok (cs := cs) (n := 8) h0 h1
 have l := enL_b (cs := cs) (i := i) (h := h)
 obtain ⟨q1, q2, q3⟩ := enN_ok (cs := cs) hf (enL cs i h).toNat (wI cs i 8) (wH h 8) a.1 a.2
 exact ⟨by unfold tcE; rw [q1]; omega, q2, q3⟩
theorem enOk_rw {fr : Int} {es : List (List L)} (hf : fr <= 32) (hl : es.length <= 32) (h : ∀ e ∈ es, EnOk fr e) : Rw [tI, tI] es := by
 refine ⟨by unfold maxLen; omega, fun e he => ?_⟩
 obtain ⟨m, f, rfl, h1, h2, h3, h4⟩ := h e he
 have hm : IntKind.has .i64 m := by show -9223372036854775808 <= m /\ m <= (9223372036854775807 : Int); omega
 have hff : IntKind.has .i64 f := by
  show -9223372036854775808 <= f /\ f <= (9223372036854775807 : Int)
  by_cases c : m = 0
  ·have := h3 c; omega
  ·have := h4 (by omega); omega
 exact ⟨⟨rfl, hm⟩, ⟨rfl, hff⟩, trivial⟩
theorem enOk_gi {fr : Int} {es : List (List L)} (h : ∀ e ∈ es, EnOk fr e) {i : Int} (h0 : 0 <= i) (h1 : i < es.length) : 0 <= giI es i 0 /\ giI es i 0 <= 2 /\ (giI es i 0 = 0 -> giI es i 1 = 0) /\ (0 < giI es i 0 -> 0 <= giI es i 1 /\ giI es i 1 < fr) := by
 have hm : es[i.toNat]? = some (es[i.toNat]'(by omega)) := List.getElem?_eq_getElem (by omega)
 obtain ⟨m, f, e, q⟩ := h _ (List.getElem_mem (show i.toNat < es.length by omega))
 have hg : es.getD i.toNat [] = [.v (.int .i64 m), .v (.int .i64 f)] := by rw [List.getD_eq_getElem?_getD, hm, e]; rfl
 have e0 : giI es i 0 = m := by unfold giI; rw [hg]; rfl
 have e1 : giI es i 1 = f := by unfold giI; rw [hg]; rfl
 rw [e0, e1]; exact q
structure MS where
 i : Int
 h : Int
 c : List (List L)
 u : List (List L)
def mcS (cs es : List (List L)) (k : Int) (s : MS) : MS :=
 if 0 < giI es k 0 then ⟨wI cs (wI cs s.i 16) 1000, wH (wH s.h 16) 1000, s.c.set (giI es k 1).toNat [.s 1 ((gsI s.c (giI es k 1) 0).set (wX cs s.i s.h 16).toNat [.v (.int .i64 (wX cs (wI cs s.i 16) (wH s.h 16) 1000))])], s.u.set (giI es k 1).toNat [.v (.bool true)]⟩
 else s
def mcN (cs es : List (List L)) (s : MS) : Nat -> MS
 | 0 => s
 | n + 1 => mcS cs es n (mcN cs es s n)
theorem mcN_up {cs es : List (List L)} {s : MS} {k : Int} (h : 0 <= k) : mcN cs es s (k + 1).toNat = mcS cs es k (mcN cs es s k.toNat) := by
 rw [show (k + 1).toNat = k.toNat + 1 from by omega, mcN, Int.toNat_of_nonneg h]
structure MsOk (cs es : List (List L)) (n : Int) (k : Nat) (s : MS) : Prop where
 i0 : 0 <= s.i
 i1 : s.i <= cs.length
 lc : (s.c.length : Int) = n
 lu : (s.u.length : Int) = n
 rc : Rw [.sl [tI]] s.c
 ru : Rw [tB] s.u
 row : ∀ f : Int, 0 <= f -> f < n -> (gsI s.c f 0).length = 16 /\ ∀ x : Int, 0 <= x -> x < 16 -> 0 <= giI (gsI s.c f 0) x 0 /\ giI (gsI s.c f 0) x 0 <= 999 /\ (gbI s.u f 0 = false -> giI (gsI s.c f 0) x 0 = 0)
 use : ∀ f : Int, 0 <= f -> f < n -> gbI s.u f 0 = decide (0 < (pgN es f k).length)
theorem mcS_ok {cs es : List (List L)} {n : Int} {k : Nat} {s : MS} (hn : n <= 32) (he : ∀ e ∈ es, EnOk n e) (hk : k < es.length) (H : MsOk cs es n k s) : MsOk cs es n (k + 1) (mcS cs es k s) := by
 have g := enOk_gi he (i := k) (by omega) (by omega)
 unfold mcS
 split
 ·rename_i hm
  have gf := g.2.2.2 hm
  have lc := H.lc; have lu := H.lu
  have w1 := wI_ok (cs := cs) (n := 16) H.i0 H.i1
  have w2 := wI_ok (cs := cs) (n := 1000) w1.1 w1.2
  have x1 := wX_ok (cs := cs) (i := s.i) (h := s.h) (n := 16) (by omega)
  have x2 := wX_ok (cs := cs) (i := wI cs s.i 16) (h := wH s.h 16) (n := 1000) (by omega)
  have hrow := H.row _ gf.1 gf.2
  have hr1 : Rw [tI] (gsI s.c (giI es k 1) 0) := Rw.sub (fs := [.sl [tI]]) H.rc (by omega) rfl
  have hr2 : Rw [tI] ((gsI s.c (giI es k 1) 0).set (wX cs s.i s.h 16).toNat [.v (.int .i64 (wX cs (wI cs s.i 16) (wH s.h 16) 1000))]) :=
   hr1.set (show confR [tI] [.v (.int .i64 _)] from ⟨⟨rfl, by show -9223372036854775808 <= _ /\ _ <= (9223372036854775807 : Int); omega⟩, trivial⟩) _
  refine ⟨w2.1, w2.2, by rw [List.length_set]; exact lc, by rw [List.length_set]; exact lu, H.rc.set (show confR [.sl [tI]] [.s 1 _] from ⟨⟨rfl, hr2⟩, trivial⟩) _, H.ru.set (show confR [tB] [.v (.bool true)] from ⟨trivial, trivial⟩) _, ?_, ?_⟩
  ·intro f f0 f1
   rw [gS_set gf.1 (by omega) f0, gB_set gf.1 (by omega) f0]
   by_cases c : f = giI es k 1
   ·rw [if_pos c, if_pos c]
    show ((gsI s.c (giI es k 1) 0).set _ _).length = 16 /\ ∀ x : Int, 0 <= x -> x < 16 -> 0 <= giI ((gsI s.c (giI es k 1) 0).set _ _) x 0 /\ giI ((gsI s.c (giI es k 1) 0).set _ _) x 0 <= 999 /\ (true = false -> _)
    refine ⟨by rw [List.length_set]; exact hrow.1, fun x y0 y1 => ?_⟩
    rw [gI_set x1.1 (by rw [hrow.1]; exact x1.2) y0]
    split
    ·exact ⟨x2.1, by show wX cs (wI cs s.i 16) (wH s.h 16) 1000 <= 999; omega, fun h => by cases h⟩
    ·have := hrow.2 x y0 y1; exact ⟨this.1, this.2.1, fun h => by cases h⟩
   ·rw [if_neg c, if_neg c]; exact H.row f f0 f1
  ·intro f f0 f1
   rw [gB_set gf.1 (by omega) f0]
   by_cases c : f = giI es k 1
   ·rw [if_pos c, pgN_yes (by omega) c.symm, List.length_append]
    show true = _
    symm; exact decide_eq_true (by simp)
   ·rw [if_neg c, pgN_no (.inr (fun e => c e.symm))]; exact H.use f f0 f1
 ·rename_i hm
  refine ⟨H.i0, H.i1, H.lc, H.lu, H.rc, H.ru, H.row, fun f f0 f1 => ?_⟩
  rw [pgN_no (.inl (by omega))]; exact H.use f f0 f1
theorem mcN_ok {cs es : List (List L)} {n : Int} {s : MS} (hn : n <= 32) (he : ∀ e ∈ es, EnOk n e) (H : MsOk cs es n 0 s) : ∀ k : Nat, k <= es.length -> MsOk cs es n k (mcN cs es s k)
 | 0, _ => H
 | k + 1, hk => mcS_ok hn he (by omega) (mcN_ok hn he H k (by omega))
def fn0 (n i h : Int) : MS := ⟨i, h, List.replicate n.toNat [.s 1 zr16], List.replicate n.toNat [.v (.bool false)]⟩
theorem fn0_ok {cs es : List (List L)} {n i h : Int} (h0 : 0 <= i) (h1 : i <= cs.length) (n0 : 1 <= n) (hn : n <= 32) : MsOk cs es n 0 (fn0 n i h) := by
 have hz : Rw [tI] zr16 := page0_rw
 refine ⟨h0, h1, by show ((List.replicate _ _).length : Int) = n; rw [List.length_replicate]; omega, by show ((List.replicate _ _).length : Int) = n; rw [List.length_replicate]; omega,
  Rw.replicate (show confR [.sl [tI]] [.s 1 zr16] from ⟨⟨rfl, hz⟩, trivial⟩) (by unfold maxLen; omega), Rw.replicate (show confR [tB] [.v (.bool false)] from ⟨trivial, trivial⟩) (by unfold maxLen; omega), fun f f0 f1 => ?_, fun f f0 f1 => ?_⟩
 ·have e : gsI (fn0 n i h).c f 0 = zr16 := by
   show lfS (((List.replicate n.toNat [L.s 1 zr16]).getD f.toNat []).getD 0 .g) = _
   rw [rep_getD f0 (by omega)]; rfl
  rw [e]
  refine ⟨rfl, fun x y0 y1 => ?_⟩
  have e2 : giI zr16 x 0 = 0 := by
   show lfI (((List.replicate 16 [zI]).getD x.toNat []).getD 0 .g) = 0
   rw [rep_getD y0 (by omega)]; rfl
  rw [e2]; exact ⟨by omega, by omega, fun _ => rfl⟩
 ·have e : gbI (fn0 n i h).u f 0 = false := by
   show lfB (((List.replicate n.toNat [L.v (.bool false)]).getD f.toNat []).getD 0 .g) = _
   rw [rep_getD f0 (by omega)]; rfl
  rw [e]; rfl
theorem ms_mach {cs es : List (List L)} {n : Int} {s : MS} (n0 : 1 <= n) (hn : n <= 32) (he : ∀ e ∈ es, EnOk n e) (hl : 1 <= es.length /\ es.length <= 32) (H : MsOk cs es n es.length s) : machOk s.c s.u es = true := by
 have lc := H.lc; have lu := H.lu
 refine mc_yes (i := n) (fr_yes (i := n) (inR_t.2 (by omega)) (by omega) (fun f f0 f1 => ?_) (by omega)) ?_ (fun f f0 f1 => ?_) (by omega)
 ·have q := H.row f f0 f1
  refine fr_in (k := 16) q.1 (fun x y0 y1 => ?_) (by omega)
  have := q.2 x y0 y1
  refine ce_in (inR_t.2 ⟨this.1, this.2.1⟩) ?_
  cases c : gbI s.u f 0
  ·exact .inr (this.2.2 c)
  ·exact .inl rfl
 ·rw [tb_yes (i := es.length) (fun j j0 j1 => tb_in (by have := enOk_gi he j0 j1; rw [lu]; exact this)) (by omega)]
  exact inR_t.2 (by omega)
 ·exact mc_in (H.use f f0 f1)
end Go.V