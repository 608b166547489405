/-
  What the constructors of a heap compute, in plain words.
-/
import Derived.Test.YtbfhhmjhdimjlaaH11
set_option linter.all false
namespace Go.V
def zI : L := .v (.int .i64 0)
def zr16 : List (List L) := List.replicate 16 [.v (.int .i64 0)]
def fnC (n : Int) : List (List L) := if inR n 1 32 = true then List.replicate n.toNat [.s 1 zr16] else []
def fnU (n : Int) : List (List L) := if inR n 1 32 = true then List.replicate n.toNat [.v (.bool false)] else []
def tnE (n : Int) : List (List L) := if inR n 1 32 = true then List.replicate n.toNat [.v (.int .i64 0), .v (.int .i64 0)] else []
theorem fn_yes {n : Int} (h : inR n 1 32 = true) : fnC n = List.replicate n.toNat [.s 1 zr16] /\ fnU n = List.replicate n.toNat [.v (.bool false)] /\ tnE n = List.replicate n.toNat [.v (.int .i64 0), .v (.int .i64 0)] := by
 unfold fnC fnU tnE; rw [if_pos h, if_pos h, if_pos h]; exact ⟨rfl, rfl, rfl⟩
theorem fn_no {n : Int} (h : inR n 1 32 = false) : fnC n = [] /\ fnU n = [] /\ tnE n = [] := by
 unfold fnC fnU tnE; rw [h]; exact ⟨rfl, rfl, rfl⟩
theorem rep_up {r : (List L)} {i : Int} (h : 0 <= i) : List.replicate i.toNat r ++ [r] = List.replicate (i + 1).toNat r := by
 rw [show (i + 1).toNat = i.toNat + 1 by omega, List.replicate_succ']
theorem rep_getD {r : (List L)} {n : Nat} {i : Int} (h0 : 0 <= i) (h1 : i < n) : (List.replicate n r).getD i.toNat [] = r := by
 rw [List.getD_eq_getElem?_getD, List.getElem?_replicate, if_pos (by omega)]; rfl
theorem r2_eq {k1 k2 : Nat} {c u c' u' : List (List L)} {b b' : Bool} (h1 : c = c') (h2 : u = u') (h5 : b = b') :
 [DV.agg [.s k1 c, .s k2 u], .one (.v (.bool b))] = [DV.agg [.s k1 c', .s k2 u'], .one (.v (.bool b'))] := by subst h1 h2 h5; rfl
theorem r1_eq {k1 : Nat} {c c' : List (List L)} {b b' : Bool} (h1 : c = c') (h5 : b = b') :
 [DV.agg [.s k1 c], .one (.v (.bool b))] = [DV.agg [.s k1 c'], .one (.v (.bool b'))] := by subst h1 h5; rfl
end Go.V