/-
  Mail, in plain words.
-/import Derived.Test.YticfhgfgobafbaaGreatH41
set_option linter.all false
namespace Go.V
def pOk (b : List (List L)) (i k : Int) : Bool := inR (giI (gsI b i 0) k 0) 0 ((b.length : Int) - 1) && decide (0 <= giI (gsI b i 0) k 1)
def aOk (x : List (List L)) (i k : Int) : Bool := decide (0 <= giI (gsI x i 0) k 0)
def rOk (b x : List (List L)) (i : Int) : Bool := allI (pOk b i) (gsI b i 0).length && allI (aOk x i) (gsI x i 0).length
def mtN (b x : List (List L)) : Nat -> Int
 | 0 => 0
 | n + 1 => mtN b x n + ((gsI b n 0).length + (gsI x n 0).length)
def mailOk (b x : List (List L)) : Bool := inR b.length 1 4 && (decide (x.length = b.length) && (allI (rOk b x) b.length && decide (mtN b x b.length <= 30)))
structure NsM (b x : List (List L)) : Prop where
 bw : Rw [.sl [tI, tI]] b
 xw : Rw [.sl [tI]] x
 bl : b.length <= 1099511627776
 xl : x.length <= 1099511627776
 bn : ∀ i : Int, (gsI b i 0).length <= 1099511627776
 xn : ∀ i : Int, (gsI x i 0).length <= 1099511627776
theorem mtN_b {b x : List (List L)} (h : NsM b x) : ∀ n : Nat, 0 <= mtN b x n /\ mtN b x n <= 2199023255552 * n
 | 0 => ⟨Int.le_refl _, Int.le_refl _⟩
 | n + 1 => by
   have q := mtN_b h n
   have p1 := h.bn n; have p2 := h.xn n
   rw [mtN]; omega
structure MlP (b x : List (List L)) (i t : Int) : Prop where
 ok : upto (rOk b x) i
 t : t = mtN b x i.toNat
theorem ml_0 {b x : List (List L)} : MlP b x 0 0 := ⟨upto_z, rfl⟩
theorem ml_b {b x : List (List L)} {i t : Int} (N : NsM b x) (h : MlP b x i t) (i0 : 0 <= i) (i1 : i <= 4) : 0 <= t /\ t <= 8796093022208 := by
 have q := mtN_b N i.toNat; have e := h.t; omega
theorem ml_up {b x : List (List L)} {i t k j : Int} (h : MlP b x i t) (i0 : 0 <= i) (hp : upto (pOk b i) k) (k1 : ((gsI b i 0).length : Int) <= k) (ha : upto (aOk x i) j) (j1 : ((gsI x i 0).length : Int) <= j) : MlP b x (i + 1) (t + ((gsI b i 0).length + (gsI x i 0).length)) := by
 refine ⟨upto_s h.ok ?_, ?_⟩
 ·unfold rOk; rw [allI_of hp k1, allI_of ha j1]; rfl
 ·rw [show (i + 1).toNat = i.toNat + 1 from by omega, mtN, <- h.t, Int.toNat_of_nonneg i0]
theorem ml_no1 {b x : List (List L)} (h : inR b.length 1 4 = false) : mailOk b x = false := by unfold mailOk; rw [h]; rfl
theorem ml_no2 {b x : List (List L)} (h : (x.length : Int) ≠ b.length) : mailOk b x = false := by
 unfold mailOk; rw [decide_eq_false (p := x.length = b.length) (by omega)]; simp
theorem ml_no {b x : List (List L)} {i : Int} (i0 : 0 <= i) (i1 : i < b.length) (h : rOk b x i = false) : mailOk b x = false := by
 unfold mailOk; rw [allI_f i0 i1 h]; simp
theorem ml_no3 {b x : List (List L)} {i k : Int} (i0 : 0 <= i) (i1 : i < b.length) (k0 : 0 <= k) (k1 : k < (gsI b i 0).length) (h : pOk b i k = false) : mailOk b x = false :=
 ml_no i0 i1 (by unfold rOk; rw [allI_f k0 k1 h]; rfl)
theorem ml_no4 {b x : List (List L)} {i k : Int} (i0 : 0 <= i) (i1 : i < b.length) (k0 : 0 <= k) (k1 : k < (gsI x i 0).length) (h : aOk x i k = false) : mailOk b x = false :=
 ml_no i0 i1 (by unfold rOk; rw [allI_f k0 k1 h, Bool.and_false])
theorem ml_end {b x : List (List L)} {i t : Int} (h : MlP b x i t) (h1 : inR b.length 1 4 = true) (h2 : (x.length : Int) = b.length) (i1 : i <= b.length) (i2 : (b.length : Int) <= i) : mailOk b x = decide (t <= 30) := by
 have e : i.toNat = b.length := by omega
 have q := h.t
 rw [e] at q
 unfold mailOk
 rw [h1, decide_eq_true (p := x.length = b.length) (by omega), allI_of h.ok i2, <- q]; rfl
theorem p_no1 {b : List (List L)} {i k : Int} (h : inR (giI (gsI b i 0) k 0) 0 ((b.length : Int) - 1) = false) : pOk b i k = false := by unfold pOk; rw [h]; rfl
theorem p_no2 {b : List (List L)} {i k : Int} (h : giI (gsI b i 0) k 1 < 0) : pOk b i k = false := by unfold pOk; rw [decide_eq_false (by omega), Bool.and_false]
theorem p_yes {b : List (List L)} {i k : Int} (h : inR (giI (gsI b i 0) k 0) 0 ((b.length : Int) - 1) = true) (g : 0 <= giI (gsI b i 0) k 1) : pOk b i k = true := by unfold pOk; rw [h, decide_eq_true g]; rfl
theorem a_no {x : List (List L)} {i k : Int} (h : giI (gsI x i 0) k 0 < 0) : aOk x i k = false := by unfold aOk; rw [decide_eq_false (by omega)]
theorem a_yes {x : List (List L)} {i k : Int} (h : 0 <= giI (gsI x i 0) k 0) : aOk x i k = true := by unfold aOk; rw [decide_eq_true h]
end Go.V