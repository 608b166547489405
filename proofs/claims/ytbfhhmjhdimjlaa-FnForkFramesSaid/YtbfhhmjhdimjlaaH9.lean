/-
  What the functions that read a heap compute, in plain words.
-/
import Derived.Test.YtbfhhmjhdimjlaaH8

set_option linter.all false
namespace Go.V

/-- A sum, in the machine's arithmetic. -/
def sumN (f : Int → Int) : Nat → Int
  | 0 => 0
  | n + 1 => arI .add .i64 (sumN f n) (f n)
theorem sumN_up {f : Int → Int} {i : Int} (h : 0 ≤ i) : sumN f (i + 1).toNat = arI .add .i64 (sumN f i.toNat) (f i) := by
  have e : ((i.toNat : Nat) : Int) = i := Int.toNat_of_nonneg h
  rw [show (i + 1).toNat = i.toNat + 1 by omega, sumN, e]
def szF (os : List (List L)) (i : Int) : Int := giI os i 2
def lsI (os : List (List L)) : Int := sumN (szF os) os.length
def waI (s : Int) : Int := if clsOf s < 0 then 0 else arI .sub .i64 (clsSz (clsOf s)) s
def waF (os : List (List L)) (i : Int) : Int := waI (giI os i 2)
def wsI (os : List (List L)) : Int := sumN (waF os) os.length
theorem wa_no {s : Int} (h : clsOf s < 0) : waI s = 0 := by unfold waI; rw [if_pos h]
theorem wa_yes {s : Int} (h : ¬ clsOf s < 0) : waI s = arI .sub .i64 (clsSz (clsOf s)) s := by unfold waI; rw [if_neg h]
def isOb (os : List (List L)) (a : Int) (j : Int) : Bool := eqB (giI os j 1) a
def obI (os : List (List L)) (a : Int) : Int := firstI (isOb os a) os.length
def isSp (ss : List (List L)) (p : Int) (j : Int) : Bool := eqB (giI ss j 0) p
def spI (ss : List (List L)) (p : Int) : Int := firstI (isSp ss p) ss.length
end Go.V
