/-
  The law of the estimate's mean.
-/
import Derived.Test.YtbfhhmjhdimjlaaH20

set_option linter.all false
namespace Go.V

theorem smL_w {cs : List (List L)} {m : Int} (h : 0 < m) (h2 : m ≤ 1000) : totN (dsz cs) (dsz cs).length - evS cs m < wtS (smL cs m) ∧ wtS (smL cs m) < totN (dsz cs) (dsz cs).length + evS cs m := by
  have e := ev_b (cs := cs) h h2
  have s := st_b (cs := cs) h h2
  have x := sm_nx (dsz_sz (cs := cs)) e.1 s.1 s.2 (Nat.le_refl _)
  have w := sm_wt (sz := dsz cs) (st := stS cs m) e.1 (n := (dsz cs).length)
  have w : wtS (smL cs m) = _ := w
  omega
theorem tot_d {cs : List (List L)} : 0 ≤ totN (dsz cs) (dsz cs).length ∧ totN (dsz cs) (dsz cs).length ≤ 13000 := by
  have t := tot_b (dsz_sz (cs := cs)) (Nat.le_refl _)
  have l := dsz_len (cs := cs)
  omega
theorem mean_d {cs : List (List L)} {m : Int} (h : 0 < m) (h2 : m ≤ 1000) : arI .mul .i64 (evS cs m) (totN (dsz cs) (dsz cs).length) = suS (dsz cs) (evS cs m) := by
  have e := ev_b (cs := cs) h h2
  have b := su_b (dsz_sz (cs := cs)) e.1 (by omega) (n := (evS cs m).toNat) (by omega)
  have a := su_all (dsz_sz (cs := cs)) e.1
  unfold suS
  rw [a] at b ⊢
  exact mul64 (by omega)
end Go.V
