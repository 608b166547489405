/-
  What a store into a machine computes, in plain words.
-/
import Derived.Test.YtbfhhmjhdimjlaaH4
set_option linter.all false
namespace Go.V
def stNew (cs : List (List L)) (fr k v : Int) : List (List L) := cs.set fr.toNat [.s 1 ((gsI cs fr 0).set k.toNat [.v (.int .i64 v)])]
theorem row_at {cs : List (List L)} {fr : Int} (h : Rw [.sl [tI]] cs) (h0 : 0 <= fr) (h1 : fr < cs.length) : cs.getD fr.toNat [] = [.s 1 (gsI cs fr 0)] := h.eta h0 h1
theorem up_2 {cs : List (List L)} {fr k v : Int} (h : Rw [.sl [tI]] cs) (h0 : 0 <= fr) (h1 : fr < cs.length) (k0 : 0 <= k) (k1 : k < (gsI cs fr 0).length) : upI (.s 1 cs) [(fr.toNat, 0), (k.toNat, 0)] [.v (.int .i64 v)] = stNew cs fr k v := by
 have hr : Rw [tI] (gsI cs fr 0) := Rw.sub (fs := [.sl [tI]]) h (by omega) rfl
 have hw := hr.wid (n := k.toNat) (by omega)
 show cs.set fr.toNat ((cs.getD fr.toNat []).set 0 (setR ((cs.getD fr.toNat []).getD 0 .g) [(k.toNat, 0)] [.v (.int .i64 v)])) = _
 rw [row_at h h0 h1]
 show cs.set fr.toNat [.s 1 ((gsI cs fr 0).set k.toNat (((gsI cs fr 0).getD k.toNat []).take 0 ++ [.v (.int .i64 v)] ++ ((gsI cs fr 0).getD k.toNat []).drop (0 + 1)))] = _
 have hw' : ((gsI cs fr 0).getD k.toNat []).length = 1 := hw
 rw [List.take_zero, List.drop_of_length_le (by omega)]; rfl
theorem get_2 {cs : List (List L)} {fr k : Int} (h : Rw [.sl [tI]] cs) (h0 : 0 <= fr) (h1 : fr < cs.length) (k0 : 0 <= k) (k1 : k < (gsI cs fr 0).length) : ∃ rec o', getR (.s 1 cs) [(fr.toNat, 0), (k.toNat, 0)] = some (rec, o') /\ o' + 1 <= rec.length := by
 have hr : Rw [tI] (gsI cs fr 0) := Rw.sub (fs := [.sl [tI]]) h (by omega) rfl
 have hw := hr.wid (n := k.toNat) (by omega)
 refine ⟨(gsI cs fr 0).getD k.toNat [], 0, ?_, ?_⟩
 ·have e := row_at h h0 h1
  have e1 : cs[fr.toNat]? = some [.s 1 (gsI cs fr 0)] := by
   rw [List.getD_eq_getElem?_getD, List.getElem?_eq_getElem (by omega)] at e
   rw [List.getElem?_eq_getElem (by omega)]; simpa using e
  show (match cs[fr.toNat]? with
   | some rec => match rec[0]? with
     | some l => getR l [(k.toNat, 0)]
     | none => none
   | none => none) = _
  rw [e1]
  show (((gsI cs fr 0)[k.toNat]?).map (·, 0)) = _
  rw [List.getD_eq_getElem?_getD, List.getElem?_eq_getElem (by omega)]; rfl
 ·rw [hw]; exact Nat.le_refl _
theorem ps_row {cs : List (List L)} {fr : Int} : psI (.s 1 cs) [(fr.toNat, 0)] = gsI cs fr 0 := psI_one
theorem at_row {cs : List (List L)} {fr : Int} (h : Rw [.sl [tI]] cs) (h0 : 0 <= fr) (h1 : fr < cs.length) : cs[fr.toNat]? = some [.s 1 (gsI cs fr 0)] := by
 have e := row_at h h0 h1
 rw [List.getD_eq_getElem?_getD, List.getElem?_eq_getElem (by omega)] at e
 rw [List.getElem?_eq_getElem (by omega)]; simpa using e
theorem get_row {cs : List (List L)} {fr : Int} (h : Rw [.sl [tI]] cs) (h0 : 0 <= fr) (h1 : fr < cs.length) : ∃ rec o, getR (.s 1 cs) [(fr.toNat, 0)] = some (rec, o) /\ o + [L.s 1 []].length <= rec.length /\ List.take [L.s 1 []].length (List.drop o rec) = etaP stdO (.s 1 cs) [(fr.toNat, 0)] 0 [L.s 1 []] := by
 refine ⟨[.s 1 (gsI cs fr 0)], 0, ?_, Nat.le_refl _, ?_⟩
 ·show (cs[fr.toNat]?).map (·, 0) = _
  rw [at_row h h0 h1]; rfl
 ·show [L.s 1 (gsI cs fr 0)] = [L.s 1 (psI (.s 1 cs) [(fr.toNat, 0)])]
  rw [ps_row]
theorem gets_row {cs : List (List L)} {fr : Int} (h : Rw [.sl [tI]] cs) (h0 : 0 <= fr) (h1 : fr < cs.length) : ∃ es, getS (.s 1 cs) [(fr.toNat, 0)] = some (1, es) := by
 refine ⟨gsI cs fr 0, ?_⟩
 rw [getS_at (by omega), row_at h h0 h1]; rfl
theorem stNew_rw {cs : List (List L)} {fr k v : Int} (h : Rw [.sl [tI]] cs) (h0 : 0 <= fr) (h1 : fr < cs.length) (hv : -9223372036854775808 <= v /\ v <= 9223372036854775807) : Rw [.sl [tI]] (stNew cs fr k v) := by
 have hr : Rw [tI] (gsI cs fr 0) := Rw.sub (fs := [.sl [tI]]) h (by omega) rfl
 exact h.set (show confR [.sl [tI]] [.s 1 _] from ⟨⟨rfl, hr.set (show confR [tI] [.v (.int .i64 v)] from ⟨⟨rfl, hv⟩, trivial⟩) _⟩, trivial⟩) _
theorem stNew_len {cs : List (List L)} {fr k v : Int} : (stNew cs fr k v).length = cs.length := by unfold stNew; rw [List.length_set]
theorem stNew_cnt {cs : List (List L)} {fr k v : Int} (h : Rw [.sl [tI]] cs) (h0 : 0 <= fr) (h1 : fr < cs.length) : cntE (stNew cs fr k v) <= cntE cs + cntE cs := by
 have hr : Rw [tI] (gsI cs fr 0) := Rw.sub (fs := [.sl [tI]]) h (by omega) rfl
 have h2 := cntE_set (es := cs) (n := fr.toNat) (e := [.s 1 ((gsI cs fr 0).set k.toNat [.v (.int .i64 v)])])
 have h3 := sub_cnt h h0 h1
 have h4 : cntR [.s 1 ((gsI cs fr 0).set k.toNat [.v (.int .i64 v)])] = cntE ((gsI cs fr 0).set k.toNat [.v (.int .i64 v)]) := by simp only [cntR, cntL, cntE]; omega
 have h5 := cntE_set (es := gsI cs fr 0) (n := k.toNat) (e := [.v (.int .i64 v)])
 have h6 : cntR [.v (.int .i64 v)] = 0 := rfl
 unfold stNew; omega
def smM (cs us es : List (List L)) (a : Int) : Int := if machOk cs us es = true then leM es a else 0
def smF (cs us es : List (List L)) (a : Int) : Int := if machOk cs us es = true then leF es a else 0
theorem sm_yes {cs us es : List (List L)} {a : Int} (h : machOk cs us es = true) : smM cs us es a = leM es a /\ smF cs us es a = leF es a := by unfold smM smF; rw [if_pos h, if_pos h]; exact ⟨rfl, rfl⟩
theorem sm_no {cs us es : List (List L)} {a : Int} (h : machOk cs us es = false \/ a < 0) : smM cs us es a = 0 /\ smF cs us es a = 0 := by
 unfold smM smF
 rcases h with h | h
 ·rw [h]; exact ⟨rfl, rfl⟩
 ·rw [(le_neg h).1, (le_neg (es := es) h).2.1]; constructor <;> split <;> rfl
theorem sm_ok {cs us es : List (List L)} {a : Int} (h : smM cs us es a ≠ 0) : machOk cs us es = true /\ 0 <= a := by
 constructor
 ·cases q : machOk cs us es
  ·exact absurd (sm_no (.inl q)).1 h
  ·rfl
 ·rcases Int.lt_or_le a 0 with q | q
  ·exact absurd (sm_no (.inr q)).1 h
  ·exact q
theorem sm_fr {cs us es : List (List L)} {a : Int} (h : smM cs us es a ≠ 0) : 0 <= smF cs us es a /\ smF cs us es a < cs.length /\ 1 <= smM cs us es a /\ smM cs us es a <= 2 /\ (gsI cs (smF cs us es a) 0).length = 16 := by
 obtain ⟨h0, h1⟩ := sm_ok h
 rw [(sm_yes h0).1, (le_pos (by omega)).1] at h ⊢; rw [(sm_yes h0).2, (le_pos (by omega)).2.1]
 have hm := mc_ok h0
 have hp := pe_fr hm.2.1 h
 exact ⟨hp.1, hp.2.1, hp.2.2.1, hp.2.2.2, fr_at hm.1 hp.1 hp.2.1⟩
def stK (cs us es : List (List L)) (a v : Int) : Int := if smM cs us es a = 0 then 1 else if smM cs us es a = 1 then 2 else if inR v 0 999 = true then 0 else 3
def stC (cs us es : List (List L)) (a v : Int) : List (List L) := if stK cs us es a v = 0 then stNew cs (smF cs us es a) (a % 16) v else cs
theorem st_1 {cs us es : List (List L)} {a v : Int} (h : smM cs us es a = 0) : stK cs us es a v = 1 /\ stC cs us es a v = cs := by
 have : stK cs us es a v = 1 := by unfold stK; rw [if_pos h]
 exact ⟨this, by unfold stC; rw [this]; rfl⟩
theorem st_2 {cs us es : List (List L)} {a v : Int} (h : smM cs us es a = 1) : stK cs us es a v = 2 /\ stC cs us es a v = cs := by
 have : stK cs us es a v = 2 := by unfold stK; rw [if_neg (by omega), if_pos h]
 exact ⟨this, by unfold stC; rw [this]; rfl⟩
theorem st_3 {cs us es : List (List L)} {a v : Int} (h0 : smM cs us es a ≠ 0) (h1 : smM cs us es a ≠ 1) (h : inR v 0 999 = false) : stK cs us es a v = 3 /\ stC cs us es a v = cs := by
 have : stK cs us es a v = 3 := by unfold stK; rw [if_neg h0, if_neg h1, h]; rfl
 exact ⟨this, by unfold stC; rw [this]; rfl⟩
theorem st_0 {cs us es : List (List L)} {a v : Int} (h0 : smM cs us es a ≠ 0) (h1 : smM cs us es a ≠ 1) (h : inR v 0 999 = true) : stK cs us es a v = 0 /\ stC cs us es a v = stNew cs (smF cs us es a) (a % 16) v := by
 have : stK cs us es a v = 0 := by unfold stK; rw [if_neg h0, if_neg h1, h]; rfl
 exact ⟨this, by unfold stC; rw [if_pos this]⟩
theorem st_eq {a b c a' b' c' : List (List L)} {x y : Int} (h1 : a = a') (h2 : b = b') (h3 : c = c') (h4 : x = y) : [DV.agg [.s 1 a, .s 1 b, .s 2 c], DV.one (.v (.int .i64 x))] = [DV.agg [.s 1 a', .s 1 b', .s 2 c'], DV.one (.v (.int .i64 y))] := by rw [h1, h2, h3, h4]
theorem stC_rw {cs us es : List (List L)} {a v : Int} (h : Rw [.sl [tI]] cs) (hv : -9223372036854775808 <= v /\ v <= 9223372036854775807) : Rw [.sl [tI]] (stC cs us es a v) := by
 unfold stC; split
 ·rename_i q
  have hm : smM cs us es a ≠ 0 := fun e => by rw [(st_1 e).1] at q; cases q
  have hf := sm_fr hm
  exact stNew_rw h hf.1 hf.2.1 hv
 ·exact h
end Go.V