/-
  The laws of the samples.
-/
import Derived.Test.YtbfhhmjhdimjlaaH19

set_option linter.all false
namespace Go.V

theorem bg_no {cs : List (List L)} (h : bgB cs = false) : cs.length ≤ 1048576 := by
  unfold bgB at h; simp only [decide_eq_false_iff_not] at h; omega
def evS (cs : List (List L)) (m : Int) : Int := arI .add .i64 1 (arI .rem .i64 (giI (dpl cs) 0 0) m)
def stS (cs : List (List L)) (m : Int) : Int := arI .rem .i64 (giI (dpl cs) 1 0) (evS cs m)
theorem ev_b {cs : List (List L)} {m : Int} (h : 0 < m) (h2 : m ≤ 1000) : 1 ≤ evS cs m ∧ evS cs m ≤ m := by
  have d := dpl_at (cs := cs) (j := 0) (by omega) (by omega)
  have r := rem_bound (a := giI (dpl cs) 0 0) d.1 h
  have e : evS cs m = 1 + arI .rem .i64 (giI (dpl cs) 0 0) m := add64 (by omega)
  omega
theorem st_b {cs : List (List L)} {m : Int} (h : 0 < m) (h2 : m ≤ 1000) : 0 ≤ stS cs m ∧ stS cs m < evS cs m := by
  have d := dpl_at (cs := cs) (j := 1) (by omega) (by omega)
  have e := ev_b (cs := cs) h h2
  exact rem_bound d.1 (by omega)
def smL (cs : List (List L)) (m : Int) : List (List L) := smp (dsz cs) (evS cs m) (stS cs m)
theorem smL_ok {cs : List (List L)} {m : Int} (h : 0 < m) (h2 : m ≤ 1000) : smOk (smL cs m) := by
  have e := ev_b (cs := cs) h h2
  have s := st_b (cs := cs) h h2
  exact smp_ok dsz_sz e.1 (by omega) s.1 s.2
/-- What stands in the sample. -/
theorem smL_at {cs : List (List L)} {m i : Int} (h : 0 < m) (h2 : m ≤ 1000) (i0 : 0 ≤ i) (i1 : i < (smL cs m).length) : giI (smL cs m) i 0 ≤ 30 ∧ evS cs m ≤ giI (smL cs m) i 1 ∧ arI .rem .i64 (giI (smL cs m) i 1) (evS cs m) = 0 := by
  have e := ev_b (cs := cs) h h2
  have s := st_b (cs := cs) h h2
  obtain ⟨j, k, q1, q2, q3, q4⟩ := (sm_at (dsz_sz (cs := cs)) e.1 s.1 s.2 (Nat.le_refl _)).2 i.toNat (by unfold smL smp at i1; omega)
  have b := sz30_gi (dsz_ok (cs := cs)).1 (i := j) (by omega) (by omega)
  have e0 : giI (smL cs m) i 0 = giI (dsz cs) j 0 := by unfold giI smL smp; rw [q4]; rfl
  have e1 : giI (smL cs m) i 1 = k * evS cs m := by unfold giI smL smp; rw [q4]; rfl
  refine ⟨by omega, ?_, ?_⟩
  · rw [e1]
    have q := Int.mul_le_mul_of_nonneg_right q2 (show 0 ≤ evS cs m by omega)
    rw [Int.one_mul] at q; exact q
  · rw [e1]
    show (k * evS cs m).tmod (evS cs m) = 0
    exact Int.mul_tmod_left ..
theorem smL_cg {cs : List (List L)} {m : Int} (h : 0 < m) (h2 : m ≤ 1000) : cgN (smL cs m) (evS cs m) (smL cs m).length = cgN (dsz cs) (evS cs m) (dsz cs).length := by
  have e := ev_b (cs := cs) h h2
  have s := st_b (cs := cs) h h2
  exact sm_cg (dsz_sz (cs := cs)) e.1 s.1 s.2 (Nat.le_refl _)
theorem smL_lg {cs : List (List L)} {m : Int} (h : 0 < m) (h2 : m ≤ 1000) : lgS (smL cs m) ≤ 30 := by
  refine (lg_b (by omega) (fun j hj => ?_)).2
  exact (smL_at h h2 (i := j) (by omega) (by omega)).1
theorem lg40 : lgS [[.v (.int .i64 40), .v (.int .i64 0)]] = 40 := by decide
theorem dsz_rw' {cs : List (List L)} : Rw [tI] (dsz cs) := dsz_rw
theorem dsz_len {cs : List (List L)} : (dsz cs).length ≤ 13 := (dsz_ok (cs := cs)).2
theorem pi_at {w : Nat} {l : List (List L)} {i : Int} {j : Nat} (h0 : 0 ≤ i) : piI (.s w l) [(i.toNat, j)] = giI l i j := by
  rw [pi_one]; unfold giI; rw [Int.toNat_natCast]
theorem get_at2 {l : List (List L)} {i : Int} {j : Nat} (h : Rw [tI, tI] l) (h0 : 0 ≤ i) (h1 : i < l.length) (hj : j < 2) : ∃ rec o, getR (.s 2 l) [(i.toNat, j)] = some (rec, o) ∧ o + [L.v (Value.int .i64 0)].length ≤ rec.length ∧ List.take [L.v (Value.int .i64 0)].length (List.drop o rec) = etaP stdO (.s 2 l) [(i.toNat, j)] 0 [L.v (Value.int .i64 0)] := by
  have e : l.getD i.toNat [] = [L.v (.int .i64 (giI l i 0)), L.v (.int .i64 (giI l i 1))] := h.eta h0 h1
  rw [List.getD_eq_getElem?_getD, List.getElem?_eq_getElem (by omega)] at e
  have e1 : l[i.toNat]? = some [.v (.int .i64 (giI l i 0)), .v (.int .i64 (giI l i 1))] := by
    rw [List.getElem?_eq_getElem (by omega)]; exact congrArg some e
  refine ⟨[.v (.int .i64 (giI l i 0)), .v (.int .i64 (giI l i 1))], j, ?_, by simp; omega, ?_⟩
  · rw [getR_one, e1]; rfl
  · show _ = [L.v (.int .i64 (piI (.s 2 l) [(i.toNat, j)]))]
    rw [pi_at h0]
    match j, hj with
    | 0, _ => rfl
    | 1, _ => rfl
theorem r40 : Rw [tI, tI] [[.v (.int .i64 40), .v (.int .i64 0)]] := by
  refine ⟨by decide, fun e he => ?_⟩
  simp only [List.mem_cons, List.not_mem_nil, or_false] at he
  rw [he]
  exact ⟨⟨rfl, by unfold IntKind.has; decide⟩, ⟨rfl, by unfold IntKind.has; decide⟩, trivial⟩
theorem dbt {a : Bool} (h : a = true) : [DV.one (.v (.bool a))] = [DV.one (.v (.bool true))] := by rw [h]
end Go.V
