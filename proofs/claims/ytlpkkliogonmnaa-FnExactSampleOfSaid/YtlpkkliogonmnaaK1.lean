/-
  Rows after marks were written into them.
-/
import Derived.Test.YtlpkkliogonmnaaV31
set_option linter.all false

namespace Go.V

/-- The record of 'f' numbers from 'k' on. -/
def cntR (f : Nat) (k : Int) : Rec := (List.range f).map fun (t : Nat) => L.v (.int .i64 (k + t))
/-- The first 'm' elements overwritten with numbers from 'k' on. -/
def markF (f : Nat) (es : List Rec) (k : Int) (m : Nat) : List Rec := ((List.range m).map fun (j : Nat) => cntR f (k + f * j)) ++ es.drop m
theorem cntR_length {f : Nat} {k : Int} : (cntR f k).length = f := by simp [cntR]
theorem markF_zero {f : Nat} {es : List Rec} {k : Int} : markF f es k 0 = es := by simp [markF]
theorem markF_length {f : Nat} {es : List Rec} {k : Int} {m : Nat} (hm : m ≤ es.length) : (markF f es k m).length = es.length := by simp [markF]; omega
theorem markF_getD {f : Nat} {es : List Rec} {k : Int} {m : Nat} : (markF f es k m).getD m [] = es.getD m [] := by
  unfold markF
  simp only [List.getD_eq_getElem?_getD]
  rw [List.getElem?_append_right (by simp)]
  simp
theorem markF_at {f : Nat} {es : List Rec} {k : Int} {m j : Nat} (hj : j < m) : (markF f es k m).getD j [] = cntR f (k + f * j) := by
  unfold markF
  simp only [List.getD_eq_getElem?_getD]
  rw [List.getElem?_append_left (by simpa using hj), List.getElem?_map, List.getElem?_range hj]
  rfl
theorem markF_set {f : Nat} {es : List Rec} {k k' : Int} {m : Nat} (hm : m < es.length) (hk : k' = k + f * m) : (markF f es k m).set m (cntR f k') = markF f es k (m + 1) := by
  subst hk
  unfold markF
  rw [List.set_append_right _ _ (by simp), List.range_succ, List.map_append, List.append_assoc]
  simp only [List.length_map, List.length_range, Nat.sub_self]
  rw [List.drop_eq_getElem_cons hm]
  rfl
theorem upI_at {sz : Nat} {es : List Rec} {n o : Nat} {new : Rec} : upI (.s sz es) [(n, o)] new = es.set n ((es.getD n []).take o ++ new ++ (es.getD n []).drop (o + new.length)) := rfl

theorem fitZ_one {a : Int} {e : Rec} (h : fitZ [.v (.int .i64 a)] e = true) : e.length = 1 := fitZ_length h
/-- One number written into a row of numbers. -/
theorem mark1 {es : List Rec} {z : Rec} {k k' : Int} {m : Nat} (hw : Wf z es) (hz : z.length = 1) (hm : m < es.length) (hk : k' = k + m) :
    upI (.s 1 (markF 1 es k m)) [(m, 0)] [.v (.int .i64 k')] = markF 1 es k (m + 1) := by
  rw [upI_one (by rw [markF_getD]; rw [fitZ_length (hw.at hm), hz]; rfl), ← markF_set (f := 1) (k' := k') hm (by omega)]
  simp [cntR]
/-- Two numbers written into a row of pairs. -/
theorem mark2 {es : List Rec} {z : Rec} {k k' k'' : Int} {m : Nat} (hw : Wf z es) (hz : z.length = 2) (hm : m < es.length) (hk : k' = k + 2 * m) (hk2 : k'' = k + 2 * m + 1) :
    upI (.s 2 (upI (.s 2 (markF 2 es k m)) [(m, 0)] [.v (.int .i64 k')])) [(m, 1)] [.v (.int .i64 k'')] = markF 2 es k (m + 1) := by
  have hl : (es.getD m []).length = 2 := by rw [fitZ_length (hw.at hm), hz]
  rw [upI_at, upI_at, markF_getD]
  have e : ((markF 2 es k m).set m ((es.getD m []).take 0 ++ [.v (.int .i64 k')] ++ (es.getD m []).drop (0 + 1))).getD m [] = [.v (.int .i64 k')] ++ (es.getD m []).drop 1 := by
    simp only [List.getD_eq_getElem?_getD]
    rw [List.getElem?_set_self (by rw [markF_length (by omega)]; omega)]
    simp
  simp only [List.length_singleton]
  rw [e, List.set_set, ← markF_set (f := 2) (k' := k') hm (by omega)]
  congr 1
  subst hk
  have h1 : ([L.v (.int .i64 (k + 2 * (m : Int)))] ++ (es.getD m []).drop 1).drop (1 + 1) = [] := List.drop_of_length_le (by rw [List.length_append, List.length_drop, hl]; simp)
  rw [h1]
  simp [cntR, List.range_succ, hk2]
theorem mark2_room {es : List Rec} {z : Rec} {k k' : Int} {m : Nat} (hw : Wf z es) (hz : z.length = 2) (hm : m < es.length) :
    1 + 1 ≤ ((upI (.s 2 (markF 2 es k m)) [(m, 0)] [.v (.int .i64 k')]).getD m []).length := by
  have hl : (es.getD m []).length = 2 := by rw [fitZ_length (hw.at hm), hz]
  rw [upI_at, markF_getD]
  simp only [List.getD_eq_getElem?_getD] at *
  rw [List.getElem?_set_self (by rw [markF_length (by omega)]; omega)]
  simp [hl]
theorem cntR_fit {f : Nat} {k : Int} : fitZ (List.replicate f (.v (.int .i64 0))) (cntR f k) = true := by
  have : ∀ (l : List Nat), fitZ (List.replicate l.length (.v (.int .i64 0))) (l.map fun (t : Nat) => L.v (.int .i64 (k + t))) = true := by
    intro l
    induction l with
    | nil => rfl
    | cons a l ih => simp only [List.length_cons, List.replicate_succ, List.map_cons, fitZ, fitL]; exact ih
  have h := this (List.range f)
  rw [List.length_range] at h
  exact h
theorem markF_wf {es : List Rec} {f : Nat} {k : Int} {m : Nat} (hw : Wf (List.replicate f (.v (.int .i64 0))) es) : Wf (List.replicate f (.v (.int .i64 0))) (markF f es k m) := by
  refine Wf.append ?_ (hw.drop _)
  intro e he
  obtain ⟨j, _, rfl⟩ := List.mem_map.1 he
  exact cntR_fit
theorem markF_gi {es : List Rec} {f t : Nat} {k i : Int} {m : Nat} (h0 : 0 ≤ i) (h1 : i < m) (ht : t < f) : giI (markF f es k m) i t = k + f * i + t := by
  have e : i = (i.toNat : Int) := by omega
  rw [e]
  generalize i.toNat = j at *
  unfold giI
  rw [Int.toNat_natCast, markF_at (by omega)]
  simp [cntR, ht, lfI]
end Go.V
