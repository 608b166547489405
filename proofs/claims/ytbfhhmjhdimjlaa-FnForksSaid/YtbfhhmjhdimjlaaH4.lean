/-
  What giving up a side of a fork computes, in plain words.
-/
import Derived.Test.YtbfhhmjhdimjlaaH3
set_option linter.all false
namespace Go.V
theorem confR_len : ∀ {fs : List Ty} {e : (List L)}, confR fs e -> e.length = fs.length
 | [], [], _ => rfl
 | [], _ :: _, h => h.elim
 | _ :: _, [], h => h.elim
 | _ :: fs, _ :: e, h => by simp only [List.length_cons]; rw [confR_len h.2]
theorem Rw.wid {fs : List Ty} {es : List (List L)} (h : Rw fs es) {n : Nat} (hn : n < es.length) : (es.getD n []).length = fs.length := confR_len (h.at hn)
theorem cntEs_set : ∀ {es : List (List L)} {n : Nat} {e : (List L)}, cntEs (es.set n e) <= cntEs es + cntR e
 | [], _, _ => by simp [cntEs]
 | a :: es, 0, e => by simp only [List.set_cons_zero, cntEs]; omega
 | a :: es, n + 1, e => by
   have := cntEs_set (es := es) (n := n) (e := e)
   simp only [List.set_cons_succ, cntEs]; omega
theorem cntE_set {es : List (List L)} {n : Nat} {e : (List L)} : cntE (es.set n e) <= cntE es + cntR e := by
 unfold cntE; rw [List.length_set]; have := cntEs_set (es := es) (n := n) (e := e); omega
def page0 : List (List L) := List.replicate 16 [.v (.int .i64 0)]
theorem page0_rw : Rw [tI] page0 := Rw.replicate (show confR [tI] [.v (.int .i64 0)] from ⟨⟨rfl, by unfold IntKind.has; decide⟩, trivial⟩) (by decide)
def cdU (us es : List (List L)) : Nat -> List (List L)
 | 0 => us
 | n + 1 => if mapsB es n = true then cdU us es n else (cdU us es n).set n [.v (.bool false)]
def cdC (cs es : List (List L)) : Nat -> List (List L)
 | 0 => cs
 | n + 1 => if mapsB es n = true then cdC cs es n else (cdC cs es n).set n [.s 1 page0]
theorem up_u {u : List (List L)} {i : Int} {b : Bool} (h : Rw [tB] u) (h0 : 0 <= i) (h1 : i < u.length) : upI (.s 1 u) [(i.toNat, 0)] [.v (.bool b)] = u.set i.toNat [.v (.bool b)] := upI_one (by rw [h.wid (by omega)]; rfl)
theorem up_c {c r : List (List L)} {i : Int} (h : Rw [.sl [tI]] c) (h0 : 0 <= i) (h1 : i < c.length) : upI (.s 1 c) [(i.toNat, 0)] [.s 1 r] = c.set i.toNat [.s 1 r] := upI_one (by rw [h.wid (by omega)]; rfl)
theorem get_1 {t : Ty} {u : List (List L)} {i : Int} (h : Rw [t] u) (h0 : 0 <= i) (h1 : i < u.length) : ∃ rec o', getR (.s 1 u) [(i.toNat, 0)] = some (rec, o') /\ o' + 1 <= rec.length := getR_some (by omega) (by rw [h.wid (by omega)]; exact Nat.le_refl _)
def cpC (cs us ts : List (List L)) (w : Int) : List (List L) := if isOk cs us ts w = true then cdC cs (gsI ts (1 - w) 0) us.length else []
def cpU (cs us ts : List (List L)) (w : Int) : List (List L) := if isOk cs us ts w = true then cdU us (gsI ts (1 - w) 0) us.length else []
def cpT (cs us ts : List (List L)) (w : Int) : List (List L) := if isOk cs us ts w = true then gsI ts (1 - w) 0 else []
theorem is_tab' {cs us ts : List (List L)} {wh : Int} (h : isOk cs us ts wh = true) : tableOk (gsI ts (1 - wh) 0) cs.length = true := is_tab (wh := 1 - wh) (is_t.2 ⟨(is_t.1 h).1, by have := is_t.1 h; omega⟩)
end Go.V