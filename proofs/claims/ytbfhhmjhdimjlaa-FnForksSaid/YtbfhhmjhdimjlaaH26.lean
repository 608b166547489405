/-
  The drawn machine: what the contracts name.
-/
import Derived.Test.YtbfhhmjhdimjlaaH25
import Derived.Test.YtbfhhmjhdimjlaaH8
import Derived.Test.YtbfhhmjhdimjlaaH20
set_option linter.all false
namespace Go.V
def onB (cs : List (List L)) (i h n : Int) : Bool := cmpI .eql (wX cs i h n) 0
theorem on_t {cs : List (List L)} {i h n : Int} (q : onB cs i h n = true) : wX cs i h n = 0 := by unfold onB cmpI at q; simpa using q
theorem on_f {cs : List (List L)} {i h n : Int} (q : onB cs i h n = false) : wX cs i h n ≠ 0 := by unfold onB cmpI at q; simpa using q
def l7N (cs : List (List L)) (i h : Int) : Int := 2 + wX cs i h 4
def l7E (cs : List (List L)) (i h : Int) : List (List L) := tcE cs (l7N cs i h) (wI cs i 4) (wH h 4)
def l7S (cs : List (List L)) (i h : Int) : MS := mcN cs (l7E cs i h) (fn0 (l7N cs i h) (tcI cs (l7N cs i h) (wI cs i 4) (wH h 4)) (tcH cs (l7N cs i h) (wI cs i 4) (wH h 4))) (l7E cs i h).length
def l7C (cs : List (List L)) (i h : Int) : List (List L) := (l7S cs i h).c
def l7U (cs : List (List L)) (i h : Int) : List (List L) := (l7S cs i h).u
def l7I (cs : List (List L)) (i h : Int) : Int := (l7S cs i h).i
def l7H (cs : List (List L)) (i h : Int) : Int := (l7S cs i h).h
def dmC (cs : List (List L)) : List (List L) := l7C cs 0 (l01h cs)
def dmU (cs : List (List L)) : List (List L) := l7U cs 0 (l01h cs)
def dmE (cs : List (List L)) : List (List L) := l7E cs 0 (l01h cs)
def l7K (cs : List (List L)) (i h : Int) (k : Nat) : MS := mcN cs (l7E cs i h) (fn0 (l7N cs i h) (tcI cs (l7N cs i h) (wI cs i 4) (wH h 4)) (tcH cs (l7N cs i h) (wI cs i 4) (wH h 4))) k
theorem l7N_b {cs : List (List L)} {i h : Int} : 2 <= l7N cs i h /\ l7N cs i h <= 5 := by
 have := wX_ok (cs := cs) (i := i) (h := h) (n := 4) (by omega)
 unfold l7N; omega
theorem l7_ok {cs : List (List L)} {i h : Int} (h0 : 0 <= i) (h1 : i <= cs.length) : (1 <= (l7E cs i h).length /\ (l7E cs i h).length <= 8) /\ (∀ e ∈ l7E cs i h, EnOk (l7N cs i h) e) /\
 ∀ k : Nat, k <= (l7E cs i h).length -> MsOk cs (l7E cs i h) (l7N cs i h) k (mcN cs (l7E cs i h) (fn0 (l7N cs i h) (tcI cs (l7N cs i h) (wI cs i 4) (wH h 4)) (tcH cs (l7N cs i h) (wI cs i 4) (wH h 4))) k) := by
 have n := l7N_b (cs := cs) (i := i) (h := h)
 have a := wI_ok (cs := cs) (n := 4) h0 h1
 have t := tc_ok (cs := cs) (fr := l7N cs i h) (h := wH h 4) (by omega) a.1 a.2
 have l := enL_b (cs := cs) (i := wI cs i 4) (h := wH h 4)
 refine ⟨by have := t.1; unfold l7E; omega, t.2.1, fun k hk => mcN_ok (by omega) t.2.1 (fn0_ok t.2.2.1 t.2.2.2 (by omega) (by omega)) k hk⟩
theorem l7_ms {cs : List (List L)} {i h k : Int} (h0 : 0 <= i) (h1 : i <= cs.length) (k0 : 0 <= k) (k1 : k <= (l7E cs i h).length) : MsOk cs (l7E cs i h) (l7N cs i h) k.toNat (l7K cs i h k.toNat) := (l7_ok h0 h1).2.2 _ (by omega)
theorem l7_0 {cs : List (List L)} {i h : Int} : (⟨tcI cs (l7N cs i h) (wI cs i 4) (wH h 4), tcH cs (l7N cs i h) (wI cs i 4) (wH h 4), fnC (l7N cs i h), fnU (l7N cs i h)⟩ : MS) = l7K cs i h (Int.toNat 0) := by
 have nb := l7N_b (cs := cs) (i := i) (h := h)
 have q := fn_yes (n := l7N cs i h) (inR_t.2 (by omega))
 rw [q.1, q.2.1]; rfl
theorem l7_yes {cs : List (List L)} {i h k a b : Int} {c u : List (List L)} (k0 : 0 <= k) (e : (⟨a, b, c, u⟩ : MS) = l7K cs i h k.toNat) (hm : 0 < giI (l7E cs i h) k 0) :
 (⟨wI cs (wI cs a 16) 1000, wH (wH b 16) 1000, stNew c (giI (l7E cs i h) k 1) (wX cs a b 16) (wX cs (wI cs a 16) (wH b 16) 1000), u.set (giI (l7E cs i h) k 1).toNat [.v (.bool true)]⟩ : MS) = l7K cs i h (k + 1).toNat := by
 unfold l7K at e ⊢
 rw [mcN_up k0, <- e, mcS, if_pos hm]; rfl
theorem l7_no {cs : List (List L)} {i h k a b : Int} {c u : List (List L)} (k0 : 0 <= k) (e : (⟨a, b, c, u⟩ : MS) = l7K cs i h k.toNat) (hm : ¬ 0 < giI (l7E cs i h) k 0) : (⟨a, b, c, u⟩ : MS) = l7K cs i h (k + 1).toNat := by
 unfold l7K at e ⊢
 rw [mcN_up k0, <- e, mcS, if_neg hm]
theorem l7_end {cs : List (List L)} {i h k a b : Int} {c u : List (List L)} (e : (⟨a, b, c, u⟩ : MS) = l7K cs i h k.toNat) (k1 : k.toNat = (l7E cs i h).length) : c = l7C cs i h /\ u = l7U cs i h /\ a = l7I cs i h /\ b = l7H cs i h := by
 rw [k1] at e
 exact ⟨congrArg MS.c e, congrArg MS.u e, congrArg MS.i e, congrArg MS.h e⟩
theorem get_en {E : List (List L)} {k : Int} (h : Rw [tI, tI] E) (h0 : 0 <= k) (h1 : k < E.length) : ∃ rec o, getR (.s 2 E) [(k.toNat, 0)] = some (rec, o) /\ o + [L.v (Value.int .i64 0), L.v (Value.int .i64 0)].length <= rec.length /\ List.take [L.v (Value.int .i64 0), L.v (Value.int .i64 0)].length (List.drop o rec) = etaP stdO (.s 2 E) [(k.toNat, 0)] 0 [L.v (Value.int .i64 0), L.v (Value.int .i64 0)] := by
 have e : E.getD k.toNat [] = [L.v (.int .i64 (giI E k 0)), L.v (.int .i64 (giI E k 1))] := h.eta h0 h1
 rw [List.getD_eq_getElem?_getD, List.getElem?_eq_getElem (by omega)] at e
 have e1 : E[k.toNat]? = some [.v (.int .i64 (giI E k 0)), .v (.int .i64 (giI E k 1))] := by
  rw [List.getElem?_eq_getElem (by omega)]; exact congrArg some e
 refine ⟨_, 0, by rw [getR_one, e1]; rfl, Nat.le_refl _, ?_⟩
 show [L.v (.int .i64 (giI E k 0)), L.v (.int .i64 (giI E k 1))] = [L.v (.int .i64 (piI (.s 2 E) [(k.toNat, 0)])), L.v (.int .i64 (piI (.s 2 E) [(k.toNat, 1)]))]
 have p : ∀ j, piI (.s 2 E) [(k.toNat, j)] = giI E k j := fun j => by rw [pi_one]; unfold giI; rw [Int.toNat_natCast]
 rw [p, p]
theorem l7_mach {cs : List (List L)} {i h : Int} (h0 : 0 <= i) (h1 : i <= cs.length) : machOk (l7C cs i h) (l7U cs i h) (l7E cs i h) = true /\ Rw [.sl [tI]] (l7C cs i h) /\ Rw [tB] (l7U cs i h) /\ Rw [tI, tI] (l7E cs i h) := by
 have n := l7N_b (cs := cs) (i := i) (h := h)
 obtain ⟨a, b, c⟩ := l7_ok (h := h) h0 h1
 have m := c _ (Nat.le_refl _)
 exact ⟨ms_mach (by omega) (by omega) b (by omega) m, m.rc, m.ru, enOk_rw (fr := l7N cs i h) (by omega) (by omega) b⟩
theorem l7_sz {cs : List (List L)} {i h : Int} (h0 : 0 <= i) (h1 : i <= cs.length) : cntE (l7C cs i h) <= 1000 /\ (l7C cs i h).length <= 5 /\ (l7U cs i h).length <= 5 /\ (l7E cs i h).length <= 8 := by
 have n := l7N_b (cs := cs) (i := i) (h := h)
 obtain ⟨a, b, c⟩ := l7_ok (h := h) h0 h1
 have m := c _ (Nat.le_refl _)
 have lc : ((l7C cs i h).length : Int) = l7N cs i h := m.lc
 have lu : ((l7U cs i h).length : Int) = l7N cs i h := m.lu
 have rc : Rw [.sl [tI]] (l7C cs i h) := m.rc
 refine ⟨?_, by omega, by omega, a.2⟩
 have key : ∀ k : Nat, k <= (l7C cs i h).length -> cntEs ((l7C cs i h).take k) <= 40 * k := by
  intro k
  induction k with
  | zero => intro _; exact Nat.le_refl _
  | succ k ih =>
    intro hk
    have q := m.row k (by omega) (by omega)
    have hs : Rw [tI] (gsI (l7C cs i h) k 0) := Rw.sub (fs := [.sl [tI]]) rc (by omega) rfl
    have hc := hs.cnt rfl
    have ht := take_row rc (i := k) (by omega) (by omega)
    rw [show ((k : Int) + 1).toNat = k + 1 from by omega, Int.toNat_natCast] at ht
    rw [ht, cntEs_append]
    have := ih (by omega)
    have q1 : (gsI (l7C cs i h) k 0).length = 16 := q.1
    simp only [cntEs, cntR, cntL]
    unfold cntE at hc
    omega
 have := key _ (Nat.le_refl _)
 rw [List.take_length] at this
 unfold cntE; omega
end Go.V