/-
  What is under way in the mail, in plain words.
-/import Derived.Test.YticfhgfgobafbaaGreatH42
set_option linter.all false
namespace Go.V
def fpK (b : List (List L)) (i : Int) : Nat -> List (List L)
 | 0 => []
 | n + 1 => fpK b i n ++ [[.v (.int .i64 (giI (gsI b i 0) n 1))]]
def fbN (b : List (List L)) : Nat -> List (List L)
 | 0 => []
 | n + 1 => fbN b n ++ fpK b n (gsI b n 0).length
def fxN (x : List (List L)) : Nat -> List (List L)
 | 0 => []
 | n + 1 => fxN x n ++ gsI x n 0
def ifL (b x : List (List L)) : List (List L) := if mailOk b x then fbN b b.length ++ fxN x x.length else []
theorem ml_t {b x : List (List L)} (h : mailOk b x = true) : b.length <= 4 /\ x.length = b.length := by
 unfold mailOk at h
 simp only [Bool.and_eq_true, decide_eq_true_eq, inR_t] at h
 omega
structure FbP (b : List (List L)) (i : Int) (o : List (List L)) : Prop where
 e : o = fbN b i.toNat
 l : o.length <= 1099511627776 * i.toNat
structure FkP (b : List (List L)) (i k : Int) (o : List (List L)) : Prop where
 e : o = fbN b i.toNat ++ fpK b i k.toNat
 l : o.length <= 1099511627776 * i.toNat + k.toNat
structure FxP (b x : List (List L)) (j : Int) (o : List (List L)) : Prop where
 e : o = fbN b b.length ++ fxN x j.toNat
 l : o.length <= 1099511627776 * b.length + 1099511627776 * j.toNat
theorem fb_0 {b : List (List L)} : FbP b 0 [] := ⟨rfl, Nat.zero_le _⟩
theorem fk_0 {b o : List (List L)} {i : Int} (h : FbP b i o) : FkP b i 0 o := ⟨by rw [h.e]; simp [fpK], by have := h.l; omega⟩
theorem fk_up {b o : List (List L)} {i k : Int} (h : FkP b i k o) (k0 : 0 <= k) : FkP b i (k + 1) (o ++ [[.v (.int .i64 (giI (gsI b i 0) k 1))]]) := by
 have l := h.l; have e := h.e
 refine ⟨?_, ?_⟩
 ·rw [show (k + 1).toNat = k.toNat + 1 from by omega, fpK, Int.toNat_of_nonneg k0, <- List.append_assoc, <- e]
 ·rw [List.length_append, List.length_cons, List.length_nil]; omega
theorem fk_end {b o : List (List L)} {i k : Int} (h : FkP b i k o) (i0 : 0 <= i) (hn : (gsI b i 0).length <= 1099511627776) (k1 : k <= ((gsI b i 0).length : Int)) (k2 : ((gsI b i 0).length : Int) <= k) : FbP b (i + 1) o := by
 have l := h.l; have e := h.e
 have ek : k.toNat = (gsI b i 0).length := by omega
 refine ⟨?_, by omega⟩
 rw [show (i + 1).toNat = i.toNat + 1 from by omega, fbN, Int.toNat_of_nonneg i0, <- ek]; exact e
theorem fx_0 {b x o : List (List L)} {i : Int} (h : FbP b i o) (i1 : i <= b.length) (i2 : (b.length : Int) <= i) : FxP b x 0 o := by
 have l := h.l; have e := h.e
 have ei : i.toNat = b.length := by omega
 rw [ei] at e l
 exact ⟨by rw [e]; simp [fxN], by omega⟩
theorem fx_up {b x o : List (List L)} {j : Int} (h : FxP b x j o) (j0 : 0 <= j) (hn : (gsI x j 0).length <= 1099511627776) : FxP b x (j + 1) (o ++ gsI x j 0) := by
 have l := h.l; have e := h.e
 refine ⟨?_, ?_⟩
 ·rw [show (j + 1).toNat = j.toNat + 1 from by omega, fxN, Int.toNat_of_nonneg j0, <- List.append_assoc, <- e]
 ·rw [List.length_append]; omega
theorem fx_end {b x o : List (List L)} {j : Int} (h : FxP b x j o) (hm : mailOk b x = true) (j1 : j <= x.length) (j2 : (x.length : Int) <= j) : o = ifL b x := by
 have e := h.e
 rw [show j.toNat = x.length from by omega] at e
 unfold ifL; rw [if_pos hm]; exact e
theorem if_f {b x : List (List L)} (hm : mailOk b x = false) : ([] : List (List L)) = ifL b x := by unfold ifL; rw [hm]; rfl
end Go.V