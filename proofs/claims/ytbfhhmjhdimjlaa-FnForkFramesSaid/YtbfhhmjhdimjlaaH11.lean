/-
  What the functions on slots and on spans to mesh compute, in plain words.
-/
import Derived.Test.YtbfhhmjhdimjlaaH10

set_option linter.all false
namespace Go.V

def slB (b i : Int) : Bool := decide (0 ≤ b) && inR i 0 15
def hsB (b i : Int) : Bool := slB b i && decide (arI .and .i64 (shI .shr .i64 b i) 1 = 1)
theorem sl_t {b i : Int} : slB b i = true ↔ 0 ≤ b ∧ 0 ≤ i ∧ i ≤ 15 := by simp [slB, inR]
theorem hs_no {b i : Int} (h : slB b i = false) : hsB b i = false := by unfold hsB; rw [h]; rfl
theorem hs_yes {b i : Int} (h : slB b i = true) (q : arI .and .i64 (shI .shr .i64 b i) 1 = 1) : hsB b i = true := by unfold hsB; rw [h, decide_eq_true q]; rfl
theorem hs_not {b i : Int} (q : arI .and .i64 (shI .shr .i64 b i) 1 ≠ 1) : hsB b i = false := by unfold hsB; rw [decide_eq_false q]; simp
theorem wr_small {i : Int} (h0 : 0 ≤ i) (h1 : i ≤ 15) : wrI .u64 i = i := by
  show IntKind.wrap .u64 i = i
  simp only [IntKind.wrap, IntKind.bits, IntKind.signed, Bool.false_and]
  rw [if_neg (by simp)]; omega
def ctN (b : Int) : Nat → Int
  | 0 => 0
  | n + 1 => if hsB b n = true then arI .add .i64 (ctN b n) 1 else ctN b n
def ctI (b : Int) : Int := ctN b 16
theorem ct_yes {b i : Int} (h : 0 ≤ i) (q : hsB b i = true) : ctN b (i + 1).toNat = arI .add .i64 (ctN b i.toNat) 1 := by
  have e : ((i.toNat : Nat) : Int) = i := Int.toNat_of_nonneg h
  rw [show (i + 1).toNat = i.toNat + 1 by omega, ctN, e, if_pos q]
theorem ct_no {b i : Int} (h : 0 ≤ i) (q : hsB b i = false) : ctN b (i + 1).toNat = ctN b i.toNat := by
  have e : ((i.toNat : Nat) : Int) = i := Int.toNat_of_nonneg h
  rw [show (i + 1).toNat = i.toNat + 1 by omega, ctN, e, q]; rfl
def msR1 (ss : List (List L)) (i : Int) : (List L) := [.v (.int .i64 (giI ss i 0)), .v (.int .i64 (giI ss i 1)), .v (.int .i64 (giI ss i 2))]
def msN (es ss : List (List L)) : Nat → List (List L)
  | 0 => []
  | n + 1 => if 0 < ctI (giI ss n 2) ∧ (fpg es (giI ss n 0)).length = 1 then msN es ss n ++ [msR1 ss n] else msN es ss n
def msS (es ss : List (List L)) : List (List L) := msN es ss ss.length
theorem ms_yes {es ss : List (List L)} {i : Int} (h : 0 ≤ i) (q : 0 < ctI (giI ss i 2)) (q2 : (fpg es (giI ss i 0)).length = 1) : msN es ss (i + 1).toNat = msN es ss i.toNat ++ [msR1 ss i] := by
  have e : ((i.toNat : Nat) : Int) = i := Int.toNat_of_nonneg h
  rw [show (i + 1).toNat = i.toNat + 1 by omega, msN, e, if_pos ⟨q, q2⟩]
theorem ms_no {es ss : List (List L)} {i : Int} (h : 0 ≤ i) (q : ¬ (0 < ctI (giI ss i 2) ∧ (fpg es (giI ss i 0)).length = 1)) : msN es ss (i + 1).toNat = msN es ss i.toNat := by
  have e : ((i.toNat : Nat) : Int) = i := Int.toNat_of_nonneg h
  rw [show (i + 1).toNat = i.toNat + 1 by omega, msN, e, if_neg q]
theorem msN_len {es ss : List (List L)} : ∀ {n : Nat}, (msN es ss n).length ≤ n
  | 0 => Nat.zero_le _
  | n + 1 => by
    have := msN_len (es := es) (ss := ss) (n := n)
    unfold msN; split
    · rw [List.length_append]; simp; omega
    · omega
theorem msN_rw {es ss : List (List L)} (h : Rw [tI, tI, tI] ss) : ∀ {n : Nat}, n ≤ ss.length → Rw [tI, tI, tI] (msN es ss n)
  | 0, _ => Rw.nil
  | n + 1, hn => by
    have ih := msN_rw (es := es) h (n := n) (by omega)
    have hl := msN_len (es := es) (ss := ss) (n := n)
    have hm := h.1
    have hc : confR [tI, tI, tI] (msR1 ss n) := by
      have e := h.at (n := n) (by omega)
      have e2 := h.eta (i := n) (by omega) (by omega)
      rw [Int.toNat_natCast] at e2
      rw [e2] at e; exact e
    unfold msN; split
    · exact ih.append (Rw.one hc) (by simp; omega)
    · exact ih
theorem ms_rw {es ss : List (List L)} (h : Rw [tI, tI, tI] ss) : Rw [tI, tI, tI] (msS es ss) ∧ cntE (msS es ss) ≤ cntE ss := by
  have hr := msN_rw (es := es) h (Nat.le_refl ss.length)
  have e1 := hr.cnt rfl
  have e2 := h.cnt rfl
  have hl := msN_len (es := es) (ss := ss) (n := ss.length)
  exact ⟨hr, by unfold msS; omega⟩
end Go.V
