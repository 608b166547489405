/-
  What the functions on spans and pages compute, in plain words.
-/
import Derived.Test.YtbfhhmjhdimjlaaH9

set_option linter.all false
namespace Go.V

/-! ### Bits -/
def bvI (x : Int) : BitVec 64 := BitVec.ofInt 64 x
theorem wrap_bv (x : BitVec 64) : IntKind.wrap .i64 (x.toNat : Int) = x.toInt := by
  have h := x.isLt
  rw [BitVec.toInt_eq_toNat_cond]
  simp only [IntKind.wrap, IntKind.bits, IntKind.signed, Bool.true_and, decide_eq_true_eq, show (64 - 1 : Nat) = 63 from rfl]
  split <;> split <;> omega
theorem or_bv {a b : Int} : arI .or .i64 a b = (bvI a ||| bvI b).toInt := wrap_bv _
theorem bv_int {x : BitVec 64} : bvI x.toInt = x := BitVec.ofInt_toInt
theorem int_bv {a : Int} (h : -9223372036854775808 ≤ a ∧ a ≤ 9223372036854775807) : (bvI a).toInt = a := by
  unfold bvI; rw [BitVec.toInt_ofInt, Int.bmod_def]; split <;> omega

/-! ### Pages of a frame -/
def fpg (es : List (List L)) (p : Int) : List (List L) := if peM es p = 0 then [] else pagesOn es (peF es p)
theorem fpg_no {es : List (List L)} {p : Int} (h : peM es p = 0) : fpg es p = [] := by unfold fpg; rw [if_pos h]
theorem fpg_yes {es : List (List L)} {p : Int} (h : peM es p ≠ 0) : fpg es p = pagesOn es (peF es p) := by unfold fpg; rw [if_neg h]
theorem fpg_rw {es : List (List L)} {p : Int} (h : es.length ≤ 1099511627776) : Rw [tI] (fpg es p) ∧ (fpg es p).length ≤ 1099511627776 := by
  unfold fpg; split
  · exact ⟨Rw.nil, by simp⟩
  · exact ⟨pages_rw h, Nat.le_trans pages_len h⟩
def isX (l : List (List L)) (x : Int) (j : Int) : Bool := eqB x (giI l j 0)
def idxI (l : List (List L)) (x : Int) : Int := firstI (isX l x) l.length
def hasB (l : List (List L)) (x : Int) : Bool := decide (0 ≤ idxI l x)
theorem has_t {l : List (List L)} {x : Int} : hasB l x = true ↔ ∃ k : Nat, k < l.length ∧ giI l k 0 = x := by
  unfold hasB idxI
  rw [decide_eq_true_eq]
  constructor
  · intro h
    unfold firstI at h
    split at h
    · rename_i j hj
      rw [List.find?_range_eq_some] at hj
      refine ⟨j, List.mem_range.1 hj.2.1, ?_⟩
      have := hj.1
      unfold isX eqB at this
      exact (of_decide_eq_true this).symm
    · omega
  · rintro ⟨k, hk, e⟩
    rcases first_bd (p := isX l x) (n := l.length) with q | q
    · exfalso
      unfold firstI at q
      split at q
      · omega
      · rename_i hn
        rw [List.find?_range_eq_none] at hn
        have := hn k hk
        unfold isX eqB at this
        rw [e] at this; simp at this
    · exact q.1

/-! ### Bits in use -/
def ubI (ss l : List (List L)) (b : Int) : Nat → Int
  | 0 => b
  | n + 1 => if hasB l (giI ss n 0) = true then arI .or .i64 (ubI ss l b n) (giI ss n 2) else ubI ss l b n
def ubJ (ss : List (List L)) (x b : Int) : Nat → Int
  | 0 => b
  | n + 1 => if giI ss n 0 = x then arI .or .i64 (ubJ ss x b n) (giI ss n 2) else ubJ ss x b n
def ubK (ss l : List (List L)) (b : Int) : Nat → Int
  | 0 => b
  | k + 1 => ubJ ss (giI l k 0) (ubK ss l b k) ss.length
theorem ubI_yes {ss l : List (List L)} {b i : Int} (h : 0 ≤ i) (q : hasB l (giI ss i 0) = true) : ubI ss l b (i + 1).toNat = arI .or .i64 (ubI ss l b i.toNat) (giI ss i 2) := by
  have e : ((i.toNat : Nat) : Int) = i := Int.toNat_of_nonneg h
  rw [show (i + 1).toNat = i.toNat + 1 by omega, ubI, e, if_pos q]
theorem ubI_no {ss l : List (List L)} {b i : Int} (h : 0 ≤ i) (q : hasB l (giI ss i 0) = false) : ubI ss l b (i + 1).toNat = ubI ss l b i.toNat := by
  have e : ((i.toNat : Nat) : Int) = i := Int.toNat_of_nonneg h
  rw [show (i + 1).toNat = i.toNat + 1 by omega, ubI, e, q]; rfl
theorem ubJ_yes {ss : List (List L)} {x b i : Int} (h : 0 ≤ i) (q : giI ss i 0 = x) : ubJ ss x b (i + 1).toNat = arI .or .i64 (ubJ ss x b i.toNat) (giI ss i 2) := by
  have e : ((i.toNat : Nat) : Int) = i := Int.toNat_of_nonneg h
  rw [show (i + 1).toNat = i.toNat + 1 by omega, ubJ, e, if_pos q]
theorem ubJ_no {ss : List (List L)} {x b i : Int} (h : 0 ≤ i) (q : giI ss i 0 ≠ x) : ubJ ss x b (i + 1).toNat = ubJ ss x b i.toNat := by
  have e : ((i.toNat : Nat) : Int) = i := Int.toNat_of_nonneg h
  rw [show (i + 1).toNat = i.toNat + 1 by omega, ubJ, e, if_neg q]
theorem ubK_up {ss l : List (List L)} {b i : Int} (h : 0 ≤ i) : ubK ss l b (i + 1).toNat = ubJ ss (giI l i 0) (ubK ss l b i.toNat) ss.length := by
  have e : ((i.toNat : Nat) : Int) = i := Int.toNat_of_nonneg h
  rw [show (i + 1).toNat = i.toNat + 1 by omega, ubK, e]
def r64 (a : Int) : Prop := -9223372036854775808 ≤ a ∧ a ≤ 9223372036854775807
theorem r64_bv {x : BitVec 64} : r64 x.toInt := by
  have h1 := x.toInt_lt; have h2 := x.le_toInt
  unfold r64; omega
theorem r64_or {a b : Int} : r64 (arI .or .i64 a b) := by rw [or_bv]; exact r64_bv
theorem ubI_r {ss l : List (List L)} {b : Int} (h : r64 b) : ∀ {n : Nat}, r64 (ubI ss l b n)
  | 0 => h
  | n + 1 => by unfold ubI; split; exact r64_or; exact ubI_r h
theorem ubJ_r {ss : List (List L)} {x b : Int} (h : r64 b) : ∀ {n : Nat}, r64 (ubJ ss x b n)
  | 0 => h
  | n + 1 => by unfold ubJ; split; exact r64_or; exact ubJ_r h
theorem ubK_r {ss l : List (List L)} {b : Int} (h : r64 b) : ∀ {n : Nat}, r64 (ubK ss l b n)
  | 0 => h
  | n + 1 => by unfold ubK; exact ubJ_r (ubK_r h)
theorem bit_or {a b : Int} {t : Nat} : (bvI (arI .or .i64 a b)).getLsbD t = ((bvI a).getLsbD t || (bvI b).getLsbD t) := by
  rw [or_bv, bv_int, BitVec.getLsbD_or]
theorem bitI {ss l : List (List L)} {b : Int} {t : Nat} : ∀ {n : Nat}, (bvI (ubI ss l b n)).getLsbD t = true ↔ (bvI b).getLsbD t = true ∨ ∃ j : Nat, j < n ∧ hasB l (giI ss j 0) = true ∧ (bvI (giI ss j 2)).getLsbD t = true
  | 0 => by simp [ubI]
  | n + 1 => by
    have ih := bitI (ss := ss) (l := l) (b := b) (t := t) (n := n)
    unfold ubI
    by_cases c : hasB l (giI ss n 0) = true
    · rw [if_pos c, bit_or, Bool.or_eq_true, ih]
      constructor
      · rintro ((h | ⟨j, h1, h2, h3⟩) | h)
        · exact .inl h
        · exact .inr ⟨j, by omega, h2, h3⟩
        · exact .inr ⟨n, by omega, c, h⟩
      · rintro (h | ⟨j, h1, h2, h3⟩)
        · exact .inl (.inl h)
        · rcases (show j < n ∨ j = n by omega) with q | rfl
          · exact .inl (.inr ⟨j, q, h2, h3⟩)
          · exact .inr h3
    · rw [if_neg c, ih]
      constructor
      · rintro (h | ⟨j, h1, h2, h3⟩)
        · exact .inl h
        · exact .inr ⟨j, by omega, h2, h3⟩
      · rintro (h | ⟨j, h1, h2, h3⟩)
        · exact .inl h
        · rcases (show j < n ∨ j = n by omega) with q | rfl
          · exact .inr ⟨j, q, h2, h3⟩
          · exact absurd h2 c
theorem bitJ {ss : List (List L)} {x b : Int} {t : Nat} : ∀ {n : Nat}, (bvI (ubJ ss x b n)).getLsbD t = true ↔ (bvI b).getLsbD t = true ∨ ∃ j : Nat, j < n ∧ giI ss j 0 = x ∧ (bvI (giI ss j 2)).getLsbD t = true
  | 0 => by simp [ubJ]
  | n + 1 => by
    have ih := bitJ (ss := ss) (x := x) (b := b) (t := t) (n := n)
    unfold ubJ
    by_cases c : giI ss n 0 = x
    · rw [if_pos c, bit_or, Bool.or_eq_true, ih]
      constructor
      · rintro ((h | ⟨j, h1, h2, h3⟩) | h)
        · exact .inl h
        · exact .inr ⟨j, by omega, h2, h3⟩
        · exact .inr ⟨n, by omega, c, h⟩
      · rintro (h | ⟨j, h1, h2, h3⟩)
        · exact .inl (.inl h)
        · rcases (show j < n ∨ j = n by omega) with q | rfl
          · exact .inl (.inr ⟨j, q, h2, h3⟩)
          · exact .inr h3
    · rw [if_neg c, ih]
      constructor
      · rintro (h | ⟨j, h1, h2, h3⟩)
        · exact .inl h
        · exact .inr ⟨j, by omega, h2, h3⟩
      · rintro (h | ⟨j, h1, h2, h3⟩)
        · exact .inl h
        · rcases (show j < n ∨ j = n by omega) with q | rfl
          · exact .inr ⟨j, q, h2, h3⟩
          · exact absurd h2 c
theorem bitK {ss l : List (List L)} {b : Int} {t : Nat} : ∀ {k : Nat}, (bvI (ubK ss l b k)).getLsbD t = true ↔ (bvI b).getLsbD t = true ∨ ∃ i j : Nat, i < k ∧ j < ss.length ∧ giI ss j 0 = giI l i 0 ∧ (bvI (giI ss j 2)).getLsbD t = true
  | 0 => by simp [ubK]
  | k + 1 => by
    have ih := bitK (ss := ss) (l := l) (b := b) (t := t) (k := k)
    unfold ubK
    rw [bitJ, ih]
    constructor
    · rintro ((h | ⟨i, j, h1, h2, h3, h4⟩) | ⟨j, h1, h2, h3⟩)
      · exact .inl h
      · exact .inr ⟨i, j, by omega, h2, h3, h4⟩
      · exact .inr ⟨k, j, by omega, h1, h2, h3⟩
    · rintro (h | ⟨i, j, h1, h2, h3, h4⟩)
      · exact .inl (.inl h)
      · rcases (show i < k ∨ i = k by omega) with q | rfl
        · exact .inl (.inr ⟨i, j, q, h2, h3, h4⟩)
        · exact .inr ⟨j, h2, h3, h4⟩
theorem ub_eq {ss l : List (List L)} {b : Int} (h : r64 b) : ubK ss l b l.length = ubI ss l b ss.length := by
  rw [← int_bv (ubK_r (ss := ss) (l := l) h (n := l.length)), ← int_bv (ubI_r (ss := ss) (l := l) h (n := ss.length))]
  congr 1
  refine BitVec.eq_of_getLsbD_eq fun t _ => b_iff ?_
  rw [bitK, bitI]
  constructor
  · rintro (h | ⟨i, j, h1, h2, h3, h4⟩)
    · exact .inl h
    · exact .inr ⟨j, h2, has_t.2 ⟨i, h1, h3.symm⟩, h4⟩
  · rintro (h | ⟨j, h1, h2, h3⟩)
    · exact .inl h
    · obtain ⟨i, hi, e⟩ := has_t.1 h2
      exact .inr ⟨i, j, hi, h1, e.symm, h3⟩
def ubB (es ss : List (List L)) (i : Int) : Int := if inR i 0 (ss.length - 1) = true then ubI ss (fpg es (giI ss i 0)) (giI ss i 2) ss.length else 0
theorem ub_no {es ss : List (List L)} {i : Int} (h : inR i 0 (ss.length - 1) = false) : ubB es ss i = 0 := by unfold ubB; rw [h]; rfl
theorem ub_yes {es ss : List (List L)} {i : Int} (h : inR i 0 (ss.length - 1) = true) : ubB es ss i = ubI ss (fpg es (giI ss i 0)) (giI ss i 2) ss.length := by unfold ubB; rw [if_pos h]
theorem span_r {ss : List (List L)} {i : Int} (h : Rw [tI, tI, tI] ss) (h0 : 0 ≤ i) (h1 : i < ss.length) : r64 (giI ss i 2) := by
  have e := h.at (n := i.toNat) (by omega)
  rw [h.eta h0 h1] at e
  have e' : confR [tI, tI, tI] [.v (.int .i64 (giI ss i 0)), .v (.int .i64 (giI ss i 1)), .v (.int .i64 (giI ss i 2))] := e
  exact e'.2.2.1.2
end Go.V
