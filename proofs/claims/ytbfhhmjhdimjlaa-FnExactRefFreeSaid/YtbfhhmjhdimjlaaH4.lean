/-
  What giving up a side of a fork computes, in plain words.
-/
import Derived.Test.YtbfhhmjhdimjlaaH3

set_option linter.all false
namespace Go.V

theorem confR_len : ∀ {fs : List Ty} {e : (List L)}, confR fs e → e.length = fs.length
  | [], [], _ => rfl
  | [], _ :: _, h => h.elim
  | _ :: _, [], h => h.elim
  | _ :: fs, _ :: e, h => by simp only [List.length_cons]; rw [confR_len h.2]
theorem Rw.wid {fs : List Ty} {es : List (List L)} (h : Rw fs es) {n : Nat} (hn : n < es.length) : (es.getD n []).length = fs.length := confR_len (h.at hn)
theorem cntEs_set : ∀ {es : List (List L)} {n : Nat} {e : (List L)}, cntEs (es.set n e) ≤ cntEs es + cntR e
  | [], _, _ => by simp [cntEs]
  | a :: es, 0, e => by simp only [List.set_cons_zero, cntEs]; omega
  | a :: es, n + 1, e => by
    have := cntEs_set (es := es) (n := n) (e := e)
    simp only [List.set_cons_succ, cntEs]; omega
theorem cntE_set {es : List (List L)} {n : Nat} {e : (List L)} : cntE (es.set n e) ≤ cntE es + cntR e := by
  unfold cntE; rw [List.length_set]; have := cntEs_set (es := es) (n := n) (e := e); omega

def page0 : List (List L) := List.replicate 16 [.v (.int .i64 0)]
theorem page0_rw : Rw [tI] page0 := Rw.replicate (show confR [tI] [.v (.int .i64 0)] from ⟨⟨rfl, by unfold IntKind.has; decide⟩, trivial⟩) (by decide)
def cdU (us es : List (List L)) : Nat → List (List L)
  | 0 => us
  | n + 1 => if mapsB es n = true then cdU us es n else (cdU us es n).set n [.v (.bool false)]
def cdC (cs es : List (List L)) : Nat → List (List L)
  | 0 => cs
  | n + 1 => if mapsB es n = true then cdC cs es n else (cdC cs es n).set n [.s 1 page0]
theorem cdU_len {us es : List (List L)} : ∀ {n : Nat}, (cdU us es n).length = us.length
  | 0 => rfl
  | n + 1 => by unfold cdU; split; exact cdU_len; rw [List.length_set]; exact cdU_len
theorem cdC_len {cs es : List (List L)} : ∀ {n : Nat}, (cdC cs es n).length = cs.length
  | 0 => rfl
  | n + 1 => by unfold cdC; split; exact cdC_len; rw [List.length_set]; exact cdC_len
theorem cdU_rw {us es : List (List L)} (h : Rw [tB] us) : ∀ {n : Nat}, Rw [tB] (cdU us es n)
  | 0 => h
  | n + 1 => by
    unfold cdU; split
    · exact cdU_rw h
    · exact (cdU_rw h).set (show confR [tB] [.v (.bool false)] from ⟨trivial, trivial⟩) _
theorem cdC_rw {cs es : List (List L)} (h : Rw [.sl [tI]] cs) : ∀ {n : Nat}, Rw [.sl [tI]] (cdC cs es n)
  | 0 => h
  | n + 1 => by
    unfold cdC; split
    · exact cdC_rw h
    · exact (cdC_rw h).set (show confR [.sl [tI]] [.s 1 page0] from ⟨⟨rfl, page0_rw⟩, trivial⟩) _
theorem cdC_cnt {cs es : List (List L)} : ∀ {n : Nat}, cntE (cdC cs es n) ≤ cntE cs + 16 * n
  | 0 => Nat.le_refl _
  | n + 1 => by
    have h := cdC_cnt (cs := cs) (es := es) (n := n)
    unfold cdC; split
    · omega
    · have h2 := cntE_set (es := cdC cs es n) (n := n) (e := [.s 1 page0])
      have h3 : cntR [.s 1 page0] = 16 := by decide
      omega
theorem cdU_yes {us es : List (List L)} {i : Int} (h0 : 0 ≤ i) (h : mapsB es i = true) : cdU us es (i + 1).toNat = cdU us es i.toNat := by
  have e : ((i.toNat : Nat) : Int) = i := Int.toNat_of_nonneg h0
  rw [show (i + 1).toNat = i.toNat + 1 from by omega, cdU, e, if_pos h]
theorem cdC_yes {cs es : List (List L)} {i : Int} (h0 : 0 ≤ i) (h : mapsB es i = true) : cdC cs es (i + 1).toNat = cdC cs es i.toNat := by
  have e : ((i.toNat : Nat) : Int) = i := Int.toNat_of_nonneg h0
  rw [show (i + 1).toNat = i.toNat + 1 from by omega, cdC, e, if_pos h]
theorem cdU_no {us es : List (List L)} {i : Int} (h0 : 0 ≤ i) (h : mapsB es i = false) : cdU us es (i + 1).toNat = (cdU us es i.toNat).set i.toNat [.v (.bool false)] := by
  have e : ((i.toNat : Nat) : Int) = i := Int.toNat_of_nonneg h0
  rw [show (i + 1).toNat = i.toNat + 1 from by omega, cdU, e, h]; rfl
theorem cdC_no {cs es : List (List L)} {i : Int} (h0 : 0 ≤ i) (h : mapsB es i = false) : cdC cs es (i + 1).toNat = (cdC cs es i.toNat).set i.toNat [.s 1 page0] := by
  have e : ((i.toNat : Nat) : Int) = i := Int.toNat_of_nonneg h0
  rw [show (i + 1).toNat = i.toNat + 1 from by omega, cdC, e, h]; rfl
theorem up_u {u : List (List L)} {i : Int} {b : Bool} (h : Rw [tB] u) (h0 : 0 ≤ i) (h1 : i < u.length) : upI (.s 1 u) [(i.toNat, 0)] [.v (.bool b)] = u.set i.toNat [.v (.bool b)] := upI_one (by rw [h.wid (by omega)]; rfl)
theorem up_c {c r : List (List L)} {i : Int} (h : Rw [.sl [tI]] c) (h0 : 0 ≤ i) (h1 : i < c.length) : upI (.s 1 c) [(i.toNat, 0)] [.s 1 r] = c.set i.toNat [.s 1 r] := upI_one (by rw [h.wid (by omega)]; rfl)
theorem get_1 {t : Ty} {u : List (List L)} {i : Int} (h : Rw [t] u) (h0 : 0 ≤ i) (h1 : i < u.length) : ∃ rec o', getR (.s 1 u) [(i.toNat, 0)] = some (rec, o') ∧ o' + 1 ≤ rec.length := getR_some (by omega) (by rw [h.wid (by omega)]; exact Nat.le_refl _)
def cpC (cs us ts : List (List L)) (w : Int) : List (List L) := if isOk cs us ts w = true then cdC cs (gsI ts (1 - w) 0) us.length else []
def cpU (cs us ts : List (List L)) (w : Int) : List (List L) := if isOk cs us ts w = true then cdU us (gsI ts (1 - w) 0) us.length else []
def cpT (cs us ts : List (List L)) (w : Int) : List (List L) := if isOk cs us ts w = true then gsI ts (1 - w) 0 else []
theorem cp_no {cs us ts : List (List L)} {w : Int} (h : isOk cs us ts w = false) : cpC cs us ts w = [] ∧ cpU cs us ts w = [] ∧ cpT cs us ts w = [] := by unfold cpC cpU cpT; rw [h]; exact ⟨rfl, rfl, rfl⟩
theorem cp_yes {cs us ts : List (List L)} {w : Int} (h : isOk cs us ts w = true) : cpC cs us ts w = cdC cs (gsI ts (1 - w) 0) us.length ∧ cpU cs us ts w = cdU us (gsI ts (1 - w) 0) us.length ∧ cpT cs us ts w = gsI ts (1 - w) 0 := by unfold cpC cpU cpT; rw [if_pos h, if_pos h, if_pos h]; exact ⟨rfl, rfl, rfl⟩
theorem is_tab' {cs us ts : List (List L)} {wh : Int} (h : isOk cs us ts wh = true) : tableOk (gsI ts (1 - wh) 0) cs.length = true := is_tab (wh := 1 - wh) (is_t.2 ⟨(is_t.1 h).1, by have := is_t.1 h; omega⟩)
theorem mw_eq {a b c a' b' c' : List (List L)} {x y : Bool} (h1 : a = a') (h2 : b = b') (h3 : c = c') (h4 : x = y) : [DV.agg [.s 1 a, .s 1 b, .s 2 c], DV.one (.v (.bool x))] = [DV.agg [.s 1 a', .s 1 b', .s 2 c'], DV.one (.v (.bool y))] := by rw [h1, h2, h3, h4]
theorem cp_wf {cs us ts : List (List L)} {w : Int} (h0 : Rw [.sl [tI]] cs) (h1 : Rw [tB] us) (h2 : Rw [.sl [tI, tI]] ts) : Rw [.sl [tI]] (cpC cs us ts w) ∧ Rw [tB] (cpU cs us ts w) ∧ Rw [tI, tI] (cpT cs us ts w) := by
  cases q : isOk cs us ts w
  · obtain ⟨e1, e2, e3⟩ := cp_no q
    rw [e1, e2, e3]; exact ⟨Rw.nil, Rw.nil, Rw.nil⟩
  · obtain ⟨e1, e2, e3⟩ := cp_yes q
    have hi := is_t.1 q
    have := (co_ok hi.1).2.1
    rw [e1, e2, e3]; exact ⟨cdC_rw h0, cdU_rw h1, Rw.sub (fs := [.sl [tI, tI]]) h2 (by omega) rfl⟩
theorem cp_cnt {cs us ts : List (List L)} {w : Int} (h : cntRs [cs, us, ts] ≤ 1048576) (h1 : Rw [tB] us) (h2 : Rw [.sl [tI, tI]] ts) : cntRs [cpC cs us ts w, cpU cs us ts w, cpT cs us ts w] ≤ 1099511627776 := by
  rw [cnt3] at h ⊢
  cases q : isOk cs us ts w
  · obtain ⟨e1, e2, e3⟩ := cp_no q
    rw [e1, e2, e3]; simp [cntE, cntEs]
  · obtain ⟨e1, e2, e3⟩ := cp_yes q
    have hi := is_t.1 q
    have hl := (co_ok hi.1).2.1
    have hx := sub_cnt h2 (i := 1 - w) (by omega) (by omega)
    have hy := cdC_cnt (cs := cs) (es := gsI ts (1 - w) 0) (n := us.length)
    have hz := (cdU_rw (es := gsI ts (1 - w) 0) (n := us.length) h1).cnt rfl
    rw [cdU_len] at hz
    have := h1.cnt rfl
    rw [e1, e2, e3]; omega
end Go.V
