/-
  What the guards are and what setting them computes, in plain words.
-/
import Derived.Test.YtbfhhmjhdimjlaaH5
set_option linter.all false
namespace Go.V
theorem cntEs_same : ∀ {es : List (List L)} {n : Nat} {e : (List L)}, n < es.length -> cntR e = cntR (es.getD n []) -> cntEs (es.set n e) = cntEs es
 | [], n, _, h, _ => absurd h (by simp)
 | a :: es, 0, e, _, h => by simp only [List.set_cons_zero, cntEs]; simp at h; omega
 | a :: es, n + 1, e, hn, h => by
   have := cntEs_same (es := es) (n := n) (e := e) (by simpa using hn) (by simpa using h)
   simp only [List.set_cons_succ, cntEs]; omega
theorem stNew_same {cs : List (List L)} {fr k v : Int} (h : Rw [.sl [tI]] cs) (h0 : 0 <= fr) (h1 : fr < cs.length) (hv : -9223372036854775808 <= v /\ v <= 9223372036854775807) : cntE (stNew cs fr k v) = cntE cs := by
 have hr : Rw [tI] (gsI cs fr 0) := Rw.sub (fs := [.sl [tI]]) h (by omega) rfl
 have hs : Rw [tI] ((gsI cs fr 0).set k.toNat [.v (.int .i64 v)]) := hr.set (show confR [tI] [.v (.int .i64 v)] from ⟨⟨rfl, hv⟩, trivial⟩) _
 unfold stNew cntE
 rw [List.length_set, cntEs_same (by omega)]
 rw [row_at h h0 h1]
 have e1 := hr.cnt rfl
 have e2 := hs.cnt rfl
 rw [List.length_set] at e2
 unfold cntE at e1 e2
 simp only [cntR, cntL, List.length_set] at *
 omega
theorem pi_row {l : List (List L)} {i : Int} (h0 : 0 <= i) : piI (.s 1 l) [(i.toNat, 0)] = giI l i 0 := by
 rw [pi_one]; unfold giI; rw [Int.toNat_natCast]
theorem get_int {l : List (List L)} {i : Int} (h : Rw [tI] l) (h0 : 0 <= i) (h1 : i < l.length) : ∃ rec o, getR (.s 1 l) [(i.toNat, 0)] = some (rec, o) /\ o + [L.v (Value.int .i64 0)].length <= rec.length /\ List.take [L.v (Value.int .i64 0)].length (List.drop o rec) = etaP stdO (.s 1 l) [(i.toNat, 0)] 0 [L.v (Value.int .i64 0)] := by
 have e : l.getD i.toNat [] = [L.v (.int .i64 (giI l i 0))] := h.eta h0 h1
 rw [List.getD_eq_getElem?_getD, List.getElem?_eq_getElem (by omega)] at e
 have e1 : l[i.toNat]? = some [.v (.int .i64 (giI l i 0))] := by
  rw [List.getElem?_eq_getElem (by omega)]; exact congrArg some e
 refine ⟨[.v (.int .i64 (giI l i 0))], 0, ?_, Nat.le_refl _, ?_⟩
 ·rw [getR_one, e1]; rfl
 ·show [L.v (.int .i64 (giI l i 0))] = [L.v (.int .i64 (piI (.s 1 l) [(i.toNat, 0)]))]
  rw [pi_row h0]
end Go.V