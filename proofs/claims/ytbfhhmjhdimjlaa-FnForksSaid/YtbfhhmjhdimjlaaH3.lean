/-
  Rows of rows that are copied.
-/
import Derived.Test.YtbfhhmjhdimjlaaH2
set_option linter.all false
namespace Go.V
theorem take_row {fs : List Ty} {es : List (List L)} {i : Int} (h : Rw [.sl fs] es) (h0 : 0 <= i) (h1 : i < es.length) : es.take (i + 1).toNat = es.take i.toNat ++ [[.s fs.length (gsI es i 0)]] := by
 rw [show (i + 1).toNat = i.toNat + 1 from by omega, getD_take_succ (d := []) (show i.toNat < es.length by omega)]
 have e := h.eta h0 h1
 rw [e]; rfl
theorem sub_cnt {fs : List Ty} {es : List (List L)} {i : Int} (h : Rw [.sl fs] es) (h0 : 0 <= i) (h1 : i < es.length) : cntE (gsI es i 0) + es.length <= cntE es := by
 have e := h.eta h0 h1
 have h2 := cntE_at (es := es) (n := i.toNat) (by omega)
 have h3 := cntEs_take_le (es := es) (n := i.toNat + 1)
 rw [e] at h2
 have h4 : cntR (etaE stdO es i 0 (zR [Ty.sl fs])) = cntE (gsI es i 0) := by
  show cntR [.s fs.length (gsI es i 0)] = _
  simp only [cntR, cntL, cntE]; omega
 rw [h4] at h2
 show _ <= es.length + cntEs es
 omega
theorem len_cnt {es : List (List L)} : es.length <= cntE es := Nat.le_add_right _ _
theorem take_end {es : List (List L)} {i : Int} (h : (es.length : Int) <= i) : es.take i.toNat = es := List.take_of_length_le (by omega)
def machIn (us es : List (List L)) (i : Int) : Bool := gbI us i 0 == mapsB es i
def machOk (cs us es : List (List L)) : Bool := framesOk cs us && tableOk es cs.length && allI (machIn us es) cs.length
theorem mc_no {cs us es : List (List L)} (h : framesOk cs us = false \/ tableOk es cs.length = false) : machOk cs us es = false := by
 unfold machOk; rcases h with h | h <;> rw [h] <;> simp
theorem mc_no2 {cs us es : List (List L)} (hf : framesOk cs us = true) (h : tableOk es us.length = false) : machOk cs us es = false := by
 rw [(fr_len hf).1] at h; exact mc_no (.inr h)
theorem mc_no3 {cs us es : List (List L)} {i : Int} (h0 : 0 <= i) (h1 : i < cs.length) (h : gbI us i 0 ≠ mapsB es i) : machOk cs us es = false := by
 unfold machOk; rw [allI_f h0 h1 (by unfold machIn; simpa using h)]; simp
theorem mc_in {us es : List (List L)} {i : Int} (h : gbI us i 0 = mapsB es i) : machIn us es i = true := by unfold machIn; simpa using h
theorem mc_yes {cs us es : List (List L)} {i : Int} (h : framesOk cs us = true) (h2 : tableOk es us.length = true) (hu : upto (machIn us es) i) (hi : (us.length : Int) <= i) : machOk cs us es = true := by
 rw [(fr_len h).1] at h2 hi
 unfold machOk; rw [h, h2, allI_of hu hi]; rfl
theorem mc_ok {cs us es : List (List L)} (q : machOk cs us es = true) : framesOk cs us = true /\ tableOk es cs.length = true /\ ∀ i : Int, 0 <= i -> i < cs.length -> gbI us i 0 = mapsB es i := by
 unfold machOk at q; simp only [Bool.and_eq_true] at q
 refine ⟨q.1.1, q.1.2, fun i h0 h1 => ?_⟩
 have := allI_t.1 q.2 i h0 h1
 unfold machIn at this; simpa using this
def cnC (cs us es : List (List L)) : List (List L) := if machOk cs us es = true then cs else []
def cnU (cs us es : List (List L)) : List (List L) := if machOk cs us es = true then us else []
def cnT (cs us es : List (List L)) : List (List L) := if machOk cs us es = true then [[.s 2 es], [.s 2 es]] else []
theorem cn_yes {cs us es : List (List L)} (h : machOk cs us es = true) : cnC cs us es = cs /\ cnU cs us es = us /\ cnT cs us es = [[.s 2 es], [.s 2 es]] := by unfold cnC cnU cnT; rw [if_pos h, if_pos h, if_pos h]; exact ⟨rfl, rfl, rfl⟩
theorem cn_no {cs us es : List (List L)} (h : machOk cs us es = false) : cnC cs us es = [] /\ cnU cs us es = [] /\ cnT cs us es = [] := by unfold cnC cnU cnT; rw [h]; exact ⟨rfl, rfl, rfl⟩
theorem cw_eq {a b c a' b' c' : List (List L)} {x y : Bool} (h1 : a = a') (h2 : b = b') (h3 : c = c') (h4 : x = y) : [DV.agg [.s 1 a, .s 1 b, .s 1 c], DV.one (.v (.bool x))] = [DV.agg [.s 1 a', .s 1 b', .s 1 c'], DV.one (.v (.bool y))] := by rw [h1, h2, h3, h4]
theorem cn_wf {cs us es : List (List L)} (h0 : Rw [.sl [tI]] cs) (h1 : Rw [tB] us) (h2 : Rw [tI, tI] es) : Rw [.sl [tI]] (cnC cs us es) /\ Rw [tB] (cnU cs us es) /\ Rw [.sl [tI, tI]] (cnT cs us es) := by
 have ht : confR [.sl [tI, tI]] [.s 2 es] := ⟨⟨rfl, h2⟩, trivial⟩
 unfold cnC cnU cnT
 split
 ·exact ⟨h0, h1, by simp [maxLen], by simpa using ht⟩
 ·exact ⟨Rw.nil, Rw.nil, Rw.nil⟩
end Go.V