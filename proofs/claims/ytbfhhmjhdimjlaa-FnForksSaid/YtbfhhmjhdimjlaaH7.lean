/-
  What taking a frame and storing into a fork compute, in plain words.
-/
import Derived.Test.YtbfhhmjhdimjlaaH6
set_option linter.all false
namespace Go.V
def usedB (us : List (List L)) (j : Int) : Bool := gbI us j 0
def freeI (us : List (List L)) : Int := match (List.range us.length).find? (fun j : Nat => !gbI us (j : Int) 0) with
 | some j => (j : Int)
 | none => -1
theorem free_at {us : List (List L)} {i : Int} (h : upto (usedB us) i) (h0 : 0 <= i) (h1 : i < us.length) (h2 : gbI us i 0 = false) : freeI us = i := by
 have e : ((i.toNat : Nat) : Int) = i := Int.toNat_of_nonneg h0
 have : (List.range us.length).find? (fun j : Nat => !gbI us (j : Int) 0) = some i.toNat := by
  rw [List.find?_range_eq_some]
  refine ⟨by rw [e, h2]; rfl, List.mem_range.2 (by omega), fun j hj => ?_⟩
  have := h j (by omega) (by omega)
  unfold usedB at this; rw [this]; rfl
 unfold freeI; rw [this]; exact e
theorem free_no {us : List (List L)} {i : Int} (h : upto (usedB us) i) (h1 : (us.length : Int) <= i) : freeI us = -1 := by
 have : (List.range us.length).find? (fun j : Nat => !gbI us (j : Int) 0) = none := by
  rw [List.find?_range_eq_none]
  intro j hj
  have := h j (by omega) (by omega)
  unfold usedB at this; rw [this]; rfl
 unfold freeI; rw [this]
theorem free_bd {us : List (List L)} : freeI us = -1 \/ 0 <= freeI us /\ freeI us < us.length := by
 unfold freeI
 split
 ·rename_i j h
  rw [List.find?_range_eq_some] at h
  have := List.mem_range.1 h.2.1
  omega
 ·exact .inl rfl
def ftB (cs us : List (List L)) : Bool := framesOk cs us && decide (0 <= freeI us)
def ftI (cs us : List (List L)) : Int := if ftB cs us = true then freeI us else -1
def ftU (cs us : List (List L)) : List (List L) := if ftB cs us = true then us.set (freeI us).toNat [.v (.bool true)] else us
theorem ft_no {cs us : List (List L)} (h : framesOk cs us = false \/ freeI us = -1) : ftB cs us = false /\ ftI cs us = -1 /\ ftU cs us = us := by
 have : ftB cs us = false := by
  unfold ftB; rcases h with h | h
  ·rw [h]; rfl
  ·rw [h]; simp
 unfold ftI ftU; rw [this]; exact ⟨rfl, rfl, rfl⟩
theorem ft_yes {cs us : List (List L)} {i : Int} (hf : framesOk cs us = true) (h0 : 0 <= i) (h : freeI us = i) : ftB cs us = true /\ ftI cs us = i /\ ftU cs us = us.set i.toNat [.v (.bool true)] := by
 have : ftB cs us = true := by unfold ftB; rw [hf, h, decide_eq_true h0]; rfl
 unfold ftI ftU; rw [this, h]; exact ⟨rfl, rfl, rfl⟩
theorem ft_eq {a b a' b' : List (List L)} {i i' : Int} {x y : Bool} (h1 : a = a') (h2 : b = b') (h3 : i = i') (h4 : x = y) : [DV.agg [.s 1 a, .s 1 b], DV.one (.v (.int .i64 i)), DV.one (.v (.bool x))] = [DV.agg [.s 1 a', .s 1 b'], DV.one (.v (.int .i64 i')), DV.one (.v (.bool y))] := by rw [h1, h2, h3, h4]
def rwE (es : List (List L)) (p n : Int) : List (List L) := es.set p.toNat [.v (.int .i64 (giI es p 0)), .v (.int .i64 n)]
def rmL (es : List (List L)) (n : Int) (P : List (List L)) : Nat -> List (List L)
 | 0 => es
 | k + 1 => rwE (rmL es n P k) (giI P k 0) n
def rmS (es : List (List L)) (f n : Int) : Nat -> List (List L)
 | 0 => es
 | k + 1 => if giI es k 0 ≠ 0 /\ giI es k 1 = f then rwE (rmS es f n k) k n else rmS es f n k
theorem rwE_len {es : List (List L)} {p n : Int} : (rwE es p n).length = es.length := by unfold rwE; rw [List.length_set]
theorem rmL_len {es : List (List L)} {n : Int} {P : List (List L)} : ∀ {k : Nat}, (rmL es n P k).length = es.length
 | 0 => rfl
 | k + 1 => by unfold rmL; rw [rwE_len, rmL_len]
theorem rmS_len {es : List (List L)} {f n : Int} : ∀ {k : Nat}, (rmS es f n k).length = es.length
 | 0 => rfl
 | k + 1 => by unfold rmS; split; rw [rwE_len, rmS_len]; exact rmS_len
theorem rwE_conf {es : List (List L)} {p n : Int} (h : Rw [tI, tI] es) (h0 : 0 <= p) (h1 : p < es.length) (hn : -9223372036854775808 <= n /\ n <= 9223372036854775807) : confR [tI, tI] [.v (.int .i64 (giI es p 0)), .v (.int .i64 n)] := by
 have e := h.at (n := p.toNat) (by omega)
 rw [h.eta h0 h1] at e
 have e' : confR [tI, tI] [.v (.int .i64 (giI es p 0)), .v (.int .i64 (giI es p 1))] := e
 exact ⟨e'.1, ⟨rfl, hn⟩, trivial⟩
theorem rwE_rw {es : List (List L)} {p n : Int} (h : Rw [tI, tI] es) (h0 : 0 <= p) (hn : -9223372036854775808 <= n /\ n <= 9223372036854775807) : Rw [tI, tI] (rwE es p n) := by
 by_cases q : p < es.length
 ·exact h.set (rwE_conf h h0 q hn) _
 ·unfold rwE; rw [List.set_eq_of_length_le (by omega)]; exact h
theorem rmS_rw {es : List (List L)} {f n : Int} (h : Rw [tI, tI] es) (hn : -9223372036854775808 <= n /\ n <= 9223372036854775807) : ∀ {k : Nat}, Rw [tI, tI] (rmS es f n k)
 | 0 => h
 | k + 1 => by unfold rmS; split; exact rwE_rw (rmS_rw h hn) (by omega) hn; exact rmS_rw h hn
theorem gD_left {a b : List (List L)} {k : Nat} (h : k < a.length) : (a ++ b).getD k [] = a.getD k [] := by
 rw [List.getD_eq_getElem?_getD, List.getD_eq_getElem?_getD, List.getElem?_append_left h]
theorem gD_right {a : List (List L)} {e : (List L)} : (a ++ [e]).getD a.length [] = e := by
 rw [List.getD_eq_getElem?_getD, List.getElem?_append_right (Nat.le_refl _), Nat.sub_self]; rfl
theorem rmL_pre {es : List (List L)} {n : Int} {P Q : List (List L)} : ∀ {k : Nat}, k <= P.length -> rmL es n (P ++ Q) k = rmL es n P k
 | 0, _ => rfl
 | k + 1, h => by
   unfold rmL
   rw [rmL_pre (by omega)]
   have : giI (P ++ Q) k 0 = giI P k 0 := by unfold giI; rw [Int.toNat_natCast, gD_left (by omega)]
   rw [this]
theorem rmL_pg {es : List (List L)} {f n : Int} : ∀ {m : Nat}, rmL es n (pgN es f m) (pgN es f m).length = rmS es f n m
 | 0 => rfl
 | m + 1 => by
   by_cases q : giI es m 0 ≠ 0 /\ giI es m 1 = f
   ·rw [pgN_yes q.1 q.2, rmS, if_pos q, List.length_append, List.length_singleton, rmL, rmL_pre (Nat.le_refl _), rmL_pg]
    have : giI (pgN es f m ++ [[.v (.int .i64 m)]]) (pgN es f m).length 0 = m := by
     unfold giI; rw [Int.toNat_natCast, gD_right]; rfl
    rw [this]
   ·rw [pgN, if_neg q, rmS, if_neg q, rmL_pg]
theorem rmL_up {es P : List (List L)} {n i : Int} (h : 0 <= i) : rmL es n P (i + 1).toNat = rwE (rmL es n P i.toNat) (giI P i 0) n := by
 have e : ((i.toNat : Nat) : Int) = i := Int.toNat_of_nonneg h
 rw [show (i + 1).toNat = i.toNat + 1 by omega, rmL, e]
def tsW (ts : List (List L)) (w : Int) (es : List (List L)) : List (List L) := ts.set w.toNat [.s 2 es]
theorem tsW_len {ts es : List (List L)} {w : Int} : (tsW ts w es).length = ts.length := by unfold tsW; rw [List.length_set]
theorem tsW_rw {ts es : List (List L)} {w : Int} (h : Rw [.sl [tI, tI]] ts) (he : Rw [tI, tI] es) : Rw [.sl [tI, tI]] (tsW ts w es) := h.set (show confR [.sl [tI, tI]] [.s 2 es] from ⟨⟨rfl, he⟩, trivial⟩) _
theorem tsW_at {ts es : List (List L)} {w : Int} (h0 : 0 <= w) (h1 : w < ts.length) : gsI (tsW ts w es) w 0 = es := by
 unfold gsI tsW; rw [getD_set_same (by omega)]; rfl
theorem tsW_tsW {ts es es' : List (List L)} {w : Int} : tsW (tsW ts w es) w es' = tsW ts w es' := by unfold tsW; rw [List.set_set]
theorem tsW_self {ts : List (List L)} {w : Int} (h : Rw [.sl [tI, tI]] ts) (h0 : 0 <= w) (h1 : w < ts.length) : tsW ts w (gsI ts w 0) = ts := by
 have e : ts.getD w.toNat [] = [.s 2 (gsI ts w 0)] := h.eta h0 h1
 unfold tsW; rw [<- e, List.getD_eq_getElem?_getD, List.getElem?_eq_getElem (by omega)]
 exact List.set_getElem_self _
def csS (cs us ts : List (List L)) (w a : Int) : Bool := mapsB (gsI ts (1 - w) 0) (ceF cs us ts w a)
def csK (cs us ts : List (List L)) (w a v : Int) : Int := if ceM cs us ts w a = 0 then 1 else if ceM cs us ts w a = 1 then 2 else if inR v 0 999 = true then (if csS cs us ts w a = true /\ ftB cs us = false then 1 else 0) else 3
def csY (cs us ts : List (List L)) (w a v : Int) : Bool := decide (csK cs us ts w a v = 0) && csS cs us ts w a
def csU (cs us ts : List (List L)) (w a v : Int) : List (List L) := if csY cs us ts w a v = true then ftU cs us else us
def csT (cs us ts : List (List L)) (w a v : Int) : List (List L) := if csY cs us ts w a v = true then tsW ts w (rmS (gsI ts w 0) (ceF cs us ts w a) (ftI cs us) (gsI ts w 0).length) else ts
def cpF (cs us ts : List (List L)) (w a : Int) : List (List L) := cs.set (ftI cs us).toNat [.s 1 (gsI cs (ceF cs us ts w a) 0)]
def csC (cs us ts : List (List L)) (w a v : Int) : List (List L) :=
 if csK cs us ts w a v = 0 then
  if csS cs us ts w a = true then stNew (cpF cs us ts w a) (ftI cs us) (a % 16) v else stNew cs (ceF cs us ts w a) (a % 16) v
 else cs
theorem cs_k {cs us ts : List (List L)} {w a v : Int} (h : csK cs us ts w a v ≠ 0) : csC cs us ts w a v = cs /\ csU cs us ts w a v = us /\ csT cs us ts w a v = ts := by
 have : csY cs us ts w a v = false := by unfold csY; rw [decide_eq_false h]; rfl
 unfold csC csU csT; rw [this, if_neg h]; exact ⟨rfl, rfl, rfl⟩
theorem cs_1 {cs us ts : List (List L)} {w a v : Int} (h : ceM cs us ts w a = 0) : csC cs us ts w a v = cs /\ csU cs us ts w a v = us /\ csT cs us ts w a v = ts /\ csK cs us ts w a v = 1 := by
 have q : csK cs us ts w a v = 1 := by unfold csK; rw [if_pos h]
 have := cs_k (v := v) (show csK cs us ts w a v ≠ 0 by omega); exact ⟨this.1, this.2.1, this.2.2, q⟩
theorem cs_2 {cs us ts : List (List L)} {w a v : Int} (h : ceM cs us ts w a = 1) : csC cs us ts w a v = cs /\ csU cs us ts w a v = us /\ csT cs us ts w a v = ts /\ csK cs us ts w a v = 2 := by
 have q : csK cs us ts w a v = 2 := by unfold csK; rw [if_neg (by omega), if_pos h]
 have := cs_k (v := v) (show csK cs us ts w a v ≠ 0 by omega); exact ⟨this.1, this.2.1, this.2.2, q⟩
theorem cs_3 {cs us ts : List (List L)} {w a v : Int} (h : ceM cs us ts w a ≠ 0) (h1 : ceM cs us ts w a ≠ 1) (h2 : inR v 0 999 = false) : csC cs us ts w a v = cs /\ csU cs us ts w a v = us /\ csT cs us ts w a v = ts /\ csK cs us ts w a v = 3 := by
 have q : csK cs us ts w a v = 3 := by unfold csK; rw [if_neg h, if_neg h1, h2]; rfl
 have := cs_k (v := v) (show csK cs us ts w a v ≠ 0 by omega); exact ⟨this.1, this.2.1, this.2.2, q⟩
theorem cs_4 {cs us ts : List (List L)} {w a v : Int} (h : ceM cs us ts w a ≠ 0) (h1 : ceM cs us ts w a ≠ 1) (h2 : inR v 0 999 = true) (h3 : mapsB (gsI ts (1 - w) 0) (ceF cs us ts w a) = true) (h4 : ftB cs us = false) : csC cs us ts w a v = cs /\ csU cs us ts w a v = us /\ csT cs us ts w a v = ts /\ csK cs us ts w a v = 1 := by
 have q : csK cs us ts w a v = 1 := by unfold csK; rw [if_neg h, if_neg h1, h2, if_pos rfl, if_pos ⟨h3, h4⟩]
 have := cs_k (v := v) (show csK cs us ts w a v ≠ 0 by omega); exact ⟨this.1, this.2.1, this.2.2, q⟩
theorem cs_5 {cs us ts : List (List L)} {w a v : Int} (h : ceM cs us ts w a ≠ 0) (h1 : ceM cs us ts w a ≠ 1) (h2 : inR v 0 999 = true) (h3 : mapsB (gsI ts (1 - w) 0) (ceF cs us ts w a) = true) (h4 : ftB cs us = true) : csC cs us ts w a v = stNew (cpF cs us ts w a) (ftI cs us) (a % 16) v /\ csU cs us ts w a v = ftU cs us /\ csT cs us ts w a v = tsW ts w (rmS (gsI ts w 0) (ceF cs us ts w a) (ftI cs us) (gsI ts w 0).length) /\ csK cs us ts w a v = 0 := by
 have q : csK cs us ts w a v = 0 := by unfold csK; rw [if_neg h, if_neg h1, h2, if_pos rfl, if_neg (by rintro ⟨_, c⟩; rw [h4] at c; cases c)]
 have hs : csS cs us ts w a = true := h3
 have hy : csY cs us ts w a v = true := by unfold csY; rw [decide_eq_true q, hs]; rfl
 unfold csC csU csT; rw [hy, if_pos q, if_pos hs]; exact ⟨rfl, rfl, rfl, q⟩
theorem cs_6 {cs us ts : List (List L)} {w a v : Int} (h : ceM cs us ts w a ≠ 0) (h1 : ceM cs us ts w a ≠ 1) (h2 : inR v 0 999 = true) (h3 : mapsB (gsI ts (1 - w) 0) (ceF cs us ts w a) = false) : csC cs us ts w a v = stNew cs (ceF cs us ts w a) (a % 16) v /\ csU cs us ts w a v = us /\ csT cs us ts w a v = ts /\ csK cs us ts w a v = 0 := by
 have hs : csS cs us ts w a = false := h3
 have q : csK cs us ts w a v = 0 := by unfold csK; rw [if_neg h, if_neg h1, h2, if_pos rfl, if_neg (by rintro ⟨c, _⟩; rw [hs] at c; cases c)]
 have hy : csY cs us ts w a v = false := by unfold csY; rw [hs]; simp
 unfold csC csU csT; rw [hy, if_pos q, hs]; exact ⟨rfl, rfl, rfl, q⟩
theorem ct_eq {a b c a' b' c' : List (List L)} {x y : Int} (h1 : a = a') (h2 : b = b') (h3 : c = c') (h4 : x = y) : [DV.agg [.s 1 a, .s 1 b, .s 1 c], DV.one (.v (.int .i64 x))] = [DV.agg [.s 1 a', .s 1 b', .s 1 c'], DV.one (.v (.int .i64 y))] := by rw [h1, h2, h3, h4]
theorem ft_bd {cs us : List (List L)} (h : ftB cs us = true) : 0 <= ftI cs us /\ ftI cs us < cs.length /\ ftI cs us = freeI us /\ ftU cs us = us.set (freeI us).toNat [.v (.bool true)] := by
 have hf : framesOk cs us = true /\ 0 <= freeI us := by unfold ftB at h; simpa using h
 have q := ft_yes hf.1 hf.2 rfl
 have hb := free_bd (us := us)
 have hl := fr_len hf.1
 rw [q.2.1, q.2.2]; exact ⟨hf.2, by omega, rfl, rfl⟩
theorem ftU_rw {cs us : List (List L)} (h : Rw [tB] us) : Rw [tB] (ftU cs us) := by
 unfold ftU; split
 ·exact h.set (show confR [tB] [.v (.bool true)] from ⟨trivial, trivial⟩) _
 ·exact h
theorem ftU_len {cs us : List (List L)} : (ftU cs us).length = us.length := by unfold ftU; split; rw [List.length_set]; rfl
theorem at_rowF {fs : List Ty} {cs : List (List L)} {fr : Int} (h : Rw [.sl fs] cs) (h0 : 0 <= fr) (h1 : fr < cs.length) : cs[fr.toNat]? = some [.s fs.length (gsI cs fr 0)] := by
 have e : cs.getD fr.toNat [] = [.s fs.length (gsI cs fr 0)] := h.eta h0 h1
 rw [List.getD_eq_getElem?_getD, List.getElem?_eq_getElem (by omega)] at e
 rw [List.getElem?_eq_getElem (by omega)]; simpa using e
theorem get_rowT {cs : List (List L)} {fr : Int} (h : Rw [.sl [tI, tI]] cs) (h0 : 0 <= fr) (h1 : fr < cs.length) : ∃ rec o, getR (.s 1 cs) [(fr.toNat, 0)] = some (rec, o) /\ o + [L.s 2 []].length <= rec.length /\ List.take [L.s 2 []].length (List.drop o rec) = etaP stdO (.s 1 cs) [(fr.toNat, 0)] 0 [L.s 2 []] := by
 refine ⟨[.s 2 (gsI cs fr 0)], 0, ?_, Nat.le_refl _, ?_⟩
 ·show (cs[fr.toNat]?).map (·, 0) = _
  rw [at_rowF h h0 h1]; rfl
 ·show [L.s 2 (gsI cs fr 0)] = [L.s 2 (psI (.s 1 cs) [(fr.toNat, 0)])]
  rw [ps_row]
theorem gets_rowT {cs : List (List L)} {fr : Int} (h : Rw [.sl [tI, tI]] cs) (h0 : 0 <= fr) (h1 : fr < cs.length) : ∃ es, getS (.s 1 cs) [(fr.toNat, 0)] = some (2, es) := by
 refine ⟨gsI cs fr 0, ?_⟩
 unfold getS
 show (match (cs[fr.toNat]?).map (·, 0) with
  | some (rec, o) => match rec[o]? with
    | some (.s sz es) => some (sz, es)
    | _ => none
  | none => none) = _
 rw [at_rowF h h0 h1]; rfl
theorem ent_at {es : List (List L)} {p : Int} (h : Rw [tI, tI] es) (h0 : 0 <= p) (h1 : p < es.length) : es[p.toNat]? = some [.v (.int .i64 (giI es p 0)), .v (.int .i64 (giI es p 1))] := by
 have e : es.getD p.toNat [] = [.v (.int .i64 (giI es p 0)), .v (.int .i64 (giI es p 1))] := h.eta h0 h1
 rw [List.getD_eq_getElem?_getD, List.getElem?_eq_getElem (by omega)] at e
 rw [List.getElem?_eq_getElem (by omega)]; simpa using e
theorem getR_e {T : List (List L)} {w p : Int} {j : Nat} (h : Rw [.sl [tI, tI]] T) (h0 : 0 <= w) (h1 : w < T.length) (p0 : 0 <= p) (p1 : p < (gsI T w 0).length) : getR (.s 1 T) [(w.toNat, 0), (p.toNat, j)] = some ([.v (.int .i64 (giI (gsI T w 0) p 0)), .v (.int .i64 (giI (gsI T w 0) p 1))], j) := by
 have hr : Rw [tI, tI] (gsI T w 0) := Rw.sub (fs := [.sl [tI, tI]]) h (by omega) rfl
 show (match T[w.toNat]? with
  | some rec => match rec[0]? with
    | some l => getR l [(p.toNat, j)]
    | none => none
  | none => none) = _
 rw [at_rowF h h0 h1]
 show (((gsI T w 0)[p.toNat]?).map (·, j)) = _
 rw [ent_at hr p0 p1]; rfl
theorem get_e {T : List (List L)} {w p : Int} (h : Rw [.sl [tI, tI]] T) (h0 : 0 <= w) (h1 : w < T.length) (p0 : 0 <= p) (p1 : p < (gsI T w 0).length) : ∃ rec o', getR (.s 1 T) [(w.toNat, 0), (p.toNat, 1)] = some (rec, o') /\ o' + 1 <= rec.length := ⟨_, _, getR_e h h0 h1 p0 p1, Nat.le_refl _⟩
theorem up_e {T : List (List L)} {w p n : Int} (h : Rw [.sl [tI, tI]] T) (h0 : 0 <= w) (h1 : w < T.length) (p0 : 0 <= p) (p1 : p < (gsI T w 0).length) : upI (.s 1 T) [(w.toNat, 0), (p.toNat, 1)] [.v (.int .i64 n)] = tsW T w (rwE (gsI T w 0) p n) := by
 have hr : Rw [tI, tI] (gsI T w 0) := Rw.sub (fs := [.sl [tI, tI]]) h (by omega) rfl
 show T.set w.toNat ((T.getD w.toNat []).set 0 (setR ((T.getD w.toNat []).getD 0 .g) [(p.toNat, 1)] [.v (.int .i64 n)])) = _
 have e : T.getD w.toNat [] = [.s 2 (gsI T w 0)] := h.eta h0 h1
 have e2 : (gsI T w 0).getD p.toNat [] = [.v (.int .i64 (giI (gsI T w 0) p 0)), .v (.int .i64 (giI (gsI T w 0) p 1))] := hr.eta p0 p1
 rw [e]
 show T.set w.toNat [.s 2 ((gsI T w 0).set p.toNat (((gsI T w 0).getD p.toNat []).take 1 ++ [.v (.int .i64 n)] ++ ((gsI T w 0).getD p.toNat []).drop (1 + 1)))] = _
 rw [e2]; rfl
theorem gs_set {cs r : List (List L)} {n : Int} {sz : Nat} (h1 : n.toNat < cs.length) : gsI (cs.set n.toNat [.s sz r]) n 0 = r := by
 unfold gsI; rw [getD_set_same h1]; rfl
theorem gi_nat {es : List (List L)} {p : Int} {j : Nat} : giI es p j = giI es (p.toNat : Int) j := by unfold giI; rw [Int.toNat_natCast]
theorem rwE_rw' {es : List (List L)} {p n : Int} (h : Rw [tI, tI] es) (hn : -9223372036854775808 <= n /\ n <= 9223372036854775807) : Rw [tI, tI] (rwE es p n) := by
 have : rwE es p n = rwE es (p.toNat : Int) n := by unfold rwE; rw [gi_nat, Int.toNat_natCast]
 rw [this]; exact rwE_rw h (by omega) hn
theorem rmL_rw {es P : List (List L)} {n : Int} (h : Rw [tI, tI] es) (hn : -9223372036854775808 <= n /\ n <= 9223372036854775807) : ∀ {k : Nat}, Rw [tI, tI] (rmL es n P k)
 | 0 => h
 | k + 1 => rwE_rw' (rmL_rw h hn) hn
theorem pgN_mem {es : List (List L)} {f : Int} : ∀ {n : Nat} {e : (List L)}, e ∈ pgN es f n -> ∃ k : Nat, k < n /\ e = [.v (.int .i64 k)]
 | 0, e, h => by cases h
 | n + 1, e, h => by
   unfold pgN at h; split at h
   ·rcases List.mem_append.1 h with q | q
    ·obtain ⟨k, hk, e⟩ := pgN_mem q; exact ⟨k, by omega, e⟩
    ·rw [List.mem_singleton] at q; exact ⟨n, by omega, q⟩
   ·obtain ⟨k, hk, e⟩ := pgN_mem h; exact ⟨k, by omega, e⟩
theorem pages_rw {es : List (List L)} {f : Int} (h : es.length <= 1099511627776) : Rw [tI] (pagesOn es f) := by
 have hl := pages_len (es := es) (f := f)
 refine ⟨by simp [maxLen]; omega, fun e he => ?_⟩
 obtain ⟨k, hk, rfl⟩ := pgN_mem he
 exact ⟨⟨rfl, (show -9223372036854775808 <= (k : Int) /\ (k : Int) <= 9223372036854775807 by omega)⟩, trivial⟩
theorem pages_at {es : List (List L)} {f i : Int} (h0 : 0 <= i) (h1 : i < (pagesOn es f).length) : 0 <= giI (pagesOn es f) i 0 /\ giI (pagesOn es f) i 0 < es.length := by
 have hm : (pagesOn es f).getD i.toNat [] ∈ pagesOn es f := by
  rw [List.getD_eq_getElem?_getD, List.getElem?_eq_getElem (by omega)]; exact List.getElem_mem _
 obtain ⟨k, hk, e⟩ := pgN_mem hm
 unfold giI; rw [e]
 show 0 <= (k : Int) /\ (k : Int) < es.length
 omega
theorem rmL_end {es : List (List L)} {f n i : Int} (h0 : i <= (pagesOn es f).length) (h1 : ((pagesOn es f).length : Int) <= i) : rmL es n (pagesOn es f) i.toNat = rmS es f n es.length := by
 rw [show i.toNat = (pagesOn es f).length by omega]; exact rmL_pg
theorem rmL_0 {es P : List (List L)} {n : Int} : rmL es n P (Int.toNat 0) = es := rfl
theorem cpF_rw {cs us ts : List (List L)} {w a : Int} (h : Rw [.sl [tI]] cs) (hf : 0 <= ceF cs us ts w a) (hf1 : ceF cs us ts w a < cs.length) : Rw [.sl [tI]] (cpF cs us ts w a) := h.set (show confR [.sl [tI]] [.s 1 _] from ⟨⟨rfl, Rw.sub (fs := [.sl [tI]]) h (by omega) rfl⟩, trivial⟩) _
theorem cpF_len {cs us ts : List (List L)} {w a : Int} : (cpF cs us ts w a).length = cs.length := by unfold cpF; rw [List.length_set]
theorem cpF_at {cs us ts : List (List L)} {w a : Int} (h : 0 <= ftI cs us) (h1 : ftI cs us < cs.length) : gsI (cpF cs us ts w a) (ftI cs us) 0 = gsI cs (ceF cs us ts w a) 0 := gs_set (by omega)
theorem cs_in {cs us ts : List (List L)} {w a v : Int} (h : csK cs us ts w a v = 0) : ceM cs us ts w a ≠ 0 /\ ceM cs us ts w a ≠ 1 /\ inR v 0 999 = true /\ (csS cs us ts w a = true -> ftB cs us = true) := by
 unfold csK at h
 split at h
 ·cases h
 ·rename_i h1; split at h
  ·cases h
  ·rename_i h2; split at h
   ·rename_i h3; split at h
    ·cases h
    ·rename_i h4
     refine ⟨h1, h2, h3, fun q => ?_⟩
     cases c : ftB cs us
     ·exact absurd ⟨q, c⟩ h4
     ·rfl
   ·cases h
theorem cpF_cnt {cs us ts : List (List L)} {w a : Int} (h : Rw [.sl [tI]] cs) (hf : 0 <= ceF cs us ts w a) (hf1 : ceF cs us ts w a < cs.length) : cntE (cpF cs us ts w a) <= cntE cs + cntE cs := by
 have h2 := cntE_set (es := cs) (n := (ftI cs us).toNat) (e := [.s 1 (gsI cs (ceF cs us ts w a) 0)])
 have h3 := sub_cnt h hf hf1
 have h4 : cntR [.s 1 (gsI cs (ceF cs us ts w a) 0)] = cntE (gsI cs (ceF cs us ts w a) 0) := by simp only [cntR, cntL, cntE]; omega
 unfold cpF; omega
theorem cs_c {cs us ts : List (List L)} {w a v : Int} (h0 : Rw [.sl [tI]] cs) : Rw [.sl [tI]] (csC cs us ts w a v) /\ cntE (csC cs us ts w a v) <= 4 * cntE cs := by
 unfold csC
 split
 ·rename_i q
  have hi := cs_in q
  have hf := ce_fr hi.1
  have hv : -9223372036854775808 <= v /\ v <= 9223372036854775807 := by have := inR_t.1 hi.2.2.1; omega
  split
  ·rename_i q2
   have hb := ft_bd (hi.2.2.2 q2)
   have hr := cpF_rw (us := us) (ts := ts) (w := w) (a := a) h0 hf.1 hf.2.1
   have hl := cpF_len (cs := cs) (us := us) (ts := ts) (w := w) (a := a)
   have hc := cpF_cnt (us := us) (ts := ts) (w := w) (a := a) h0 hf.1 hf.2.1
   have hn := stNew_cnt (k := a % 16) (v := v) hr hb.1 (by omega)
   exact ⟨stNew_rw hr hb.1 (by omega) hv, by omega⟩
  ·have hn := stNew_cnt (k := a % 16) (v := v) h0 hf.1 hf.2.1
   exact ⟨stNew_rw h0 hf.1 hf.2.1 hv, by omega⟩
 ·exact ⟨h0, by omega⟩
theorem cs_u {cs us ts : List (List L)} {w a v : Int} (h1 : Rw [tB] us) : Rw [tB] (csU cs us ts w a v) /\ cntE (csU cs us ts w a v) <= cntE us := by
 unfold csU
 split
 ·have h := (ftU_rw (cs := cs) h1).cnt rfl
  have h' := h1.cnt rfl
  rw [ftU_len] at h
  exact ⟨ftU_rw h1, by omega⟩
 ·exact ⟨h1, Nat.le_refl _⟩
theorem cs_t {cs us ts : List (List L)} {w a v : Int} (h2 : Rw [.sl [tI, tI]] ts) : Rw [.sl [tI, tI]] (csT cs us ts w a v) /\ cntE (csT cs us ts w a v) <= cntE ts + cntE ts := by
 unfold csT
 split
 ·rename_i q
  unfold csY at q; simp only [Bool.and_eq_true, decide_eq_true_eq] at q
  have hi := cs_in q.1
  have hb := ft_bd (hi.2.2.2 q.2)
  have hok := ce_ok hi.1
  have hco := co_ok (is_t.1 hok.1).1
  have hw := (is_t.1 hok.1).2
  have hl := fr_len hco.1
  have htr : Rw [tI, tI] (gsI ts w 0) := Rw.sub (fs := [.sl [tI, tI]]) h2 (by omega) rfl
  have hr := rmS_rw (f := ceF cs us ts w a) (n := ftI cs us) htr (by omega) (k := (gsI ts w 0).length)
  have e1 := hr.cnt rfl
  have e2 := htr.cnt rfl
  rw [rmS_len] at e1
  have h3 := sub_cnt h2 (i := w) (by omega) (by omega)
  have h4 := cntE_set (es := ts) (n := w.toNat) (e := [.s 2 (rmS (gsI ts w 0) (ceF cs us ts w a) (ftI cs us) (gsI ts w 0).length)])
  have h5 : cntR [.s 2 (rmS (gsI ts w 0) (ceF cs us ts w a) (ftI cs us) (gsI ts w 0).length)] = cntE (rmS (gsI ts w 0) (ceF cs us ts w a) (ftI cs us) (gsI ts w 0).length) := by simp only [cntR, cntL, cntE]; omega
  refine ⟨tsW_rw h2 hr, ?_⟩
  unfold tsW; omega
 ·exact ⟨h2, by omega⟩
end Go.V