/-
  The arithmetic of samples, in plain Lean.
-/
import Derived.Test.YtlpkkliogonmnaaV31
set_option linter.all false

namespace Go.V

abbrev zI : Rec := [.v (.int .i64 0)]
abbrev zS : Rec := [.v (.int .i64 0), .v (.int .i64 0)]
def inR0 (x lo hi : Int) : Bool := decide (lo ≤ x) && decide (x ≤ hi)
theorem inR0_t {x lo hi : Int} : inR0 x lo hi = true ↔ lo ≤ x ∧ x ≤ hi := by simp [inR0]
theorem inR0_f {x lo hi : Int} : inR0 x lo hi = false ↔ ¬ (lo ≤ x ∧ x ≤ hi) := by rw [← inR0_t]; simp

/-- The starts that lie below a stop: where the next one lies, and how many there were. -/
def inner (every stop : Int) : Nat → Int → Int → Int × Int
  | 0, nx, n => (nx, n)
  | f + 1, nx, n => if nx < stop then inner every stop f (nx + every) (n + 1) else (nx, n)
theorem inner_done {every stop nx n : Int} (h : stop ≤ nx) : ∀ f, inner every stop f nx n = (nx, n)
  | 0 => rfl
  | f + 1 => by simp only [inner]; rw [if_neg (by omega)]
theorem inner_fuel {every stop : Int} (he : 1 ≤ every) : ∀ (f f' : Nat) (nx n : Int), (stop - nx).toNat ≤ f → (stop - nx).toNat ≤ f' → inner every stop f nx n = inner every stop f' nx n
  | 0, f', nx, n, h, _ => by rw [inner_done (by omega), inner_done (by omega)]
  | f + 1, 0, nx, n, _, h => by rw [inner_done (by omega), inner_done (by omega)]
  | f + 1, f' + 1, nx, n, h, h' => by
    simp only [inner]
    split
    · exact inner_fuel he f f' _ _ (by omega) (by omega)
    · rfl
def innerN (every stop nx n : Int) : Int × Int := inner every stop (stop - nx).toNat nx n
theorem innerN_step {every stop nx n : Int} (he : 1 ≤ every) (h : nx < stop) : innerN every stop nx n = innerN every stop (nx + every) (n + 1) := by
  unfold innerN
  obtain ⟨k, hk⟩ : ∃ k, (stop - nx).toNat = k + 1 := ⟨(stop - nx).toNat - 1, by omega⟩
  rw [hk]; simp only [inner]; rw [if_pos h]
  exact inner_fuel he _ _ _ _ (by omega) (by omega)
theorem innerN_done {every stop nx n : Int} (h : stop ≤ nx) : innerN every stop nx n = (nx, n) := inner_done h _

def sampStep (every : Int) (st : List Rec × Int × Int) (e : Rec) : List Rec × Int × Int :=
  let s := lfI (e.getD 0 .g)
  let r := innerN every (st.2.2 + s) st.2.1 0
  (if r.2 > 0 then st.1 ++ [[.v (.int .i64 s), .v (.int .i64 (r.2 * every))]] else st.1, r.1, st.2.2 + s)
def sampRun (es : List Rec) (every start : Int) (i : Nat) : List Rec × Int × Int := (es.take i).foldl (sampStep every) ([], start, 0)
theorem sampRun_succ {es : List Rec} {every start : Int} {i : Nat} (hi : i < es.length) : sampRun es every start (i + 1) = sampStep every (sampRun es every start i) (es.getD i []) := foldl_take_succ hi
def sizes0 (es : List Rec) : Bool := es.all fun e => inR0 (lfI (e.getD 0 .g)) 1 1000
def sampleOk0 (es : List Rec) (every : Int) : Bool := sizes0 es && (decide (es.length ≤ 200) && inR0 every 1 1000)
def sampleOf0 (es : List Rec) (every start : Int) : List Rec := if sampleOk0 es every && inR0 start 0 (every - 1) then (sampRun es every start es.length).1 else []
def cells0 (es : List Rec) : Int := es.foldl (fun m e => arI .add .i64 m (lfI (e.getD 1 .g))) 0
def sumTo (es : List Rec) (every : Int) (i : Nat) : Int := (List.range i).foldl (fun m (s : Nat) => arI .add .i64 m (cells0 (sampleOf0 es every s))) 0
theorem sumTo_succ {es : List Rec} {every : Int} {i : Nat} : sumTo es every (i + 1) = arI .add .i64 (sumTo es every i) (cells0 (sampleOf0 es every i)) := by
  simp [sumTo, List.range_succ, List.foldl_append]
def sumS0 (es : List Rec) (every : Int) : Int := if sampleOk0 es every then sumTo es every every.toNat else 0

theorem sizes0_at {es : List Rec} (h : sizes0 es = true) {i : Int} (h0 : 0 ≤ i) (h1 : i < es.length) : 1 ≤ giI es i 0 ∧ giI es i 0 ≤ 1000 := by
  unfold sizes0 at h
  rw [List.all_eq_true] at h
  have := h (es.getD i.toNat []) (by rw [List.getD_eq_getElem?_getD, List.getElem?_eq_getElem (by omega)]; exact List.getElem_mem _)
  exact inR0_t.1 this
theorem sizes0_of {es : List Rec} (h : ∀ i : Nat, i < es.length → inR0 (giI es i 0) 1 1000 = true) : sizes0 es = true := by
  unfold sizes0
  rw [List.all_eq_true]
  intro e he
  obtain ⟨i, hi, rfl⟩ := List.getElem_of_mem he
  have := h i hi
  simp only [giI, Int.toNat_natCast, List.getD_eq_getElem?_getD, List.getElem?_eq_getElem hi, Option.getD_some] at this
  exact this
theorem sizes0_not {es : List Rec} {i : Int} (h0 : 0 ≤ i) (h1 : i < es.length) (h : inR0 (giI es i 0) 1 1000 = false) : sizes0 es = false := by
  cases hs : sizes0 es with
  | false => rfl
  | true =>
    have := sizes0_at hs h0 h1
    rw [inR0_f] at h; omega

/-- What holds of the run, and of its row. -/
theorem innerN_le {every stop : Int} (he : 1 ≤ every) (he2 : every ≤ 1000) : ∀ (f : Nat) (nx n : Int), (stop - nx).toNat ≤ f → 0 ≤ n → n ≤ nx → nx ≤ (innerN every stop nx n).1 ∧ (innerN every stop nx n).1 ≤ max nx (stop + 1000) ∧ 0 ≤ (innerN every stop nx n).2 ∧ (innerN every stop nx n).2 ≤ (innerN every stop nx n).1
  | 0, nx, n, h, h0, h1 => by rw [innerN_done (by omega)]; simp only; omega
  | f + 1, nx, n, h, h0, h1 => by
    by_cases c : nx < stop
    · rw [innerN_step he c]
      have := innerN_le (stop := stop) he he2 f (nx + every) (n + 1) (by omega) (by omega) (by omega)
      omega
    · rw [innerN_done (by omega)]; simp only; omega
theorem sampRun_ok {es : List Rec} (hw : sizes0 es = true) {every start : Int} (he : 1 ≤ every ∧ every ≤ 1000) (hs : 0 ≤ start ∧ start ≤ every - 1) : ∀ i : Nat, i ≤ es.length →
    Wf zS (sampRun es every start i).1 ∧ (sampRun es every start i).1.length ≤ i ∧ 0 ≤ (sampRun es every start i).2.1 ∧ (sampRun es every start i).2.1 ≤ (sampRun es every start i).2.2 + 1000 ∧ 0 ≤ (sampRun es every start i).2.2 ∧ (sampRun es every start i).2.2 ≤ 1000 * i
  | 0, _ => by
    simp only [sampRun, List.take_zero, List.foldl_nil]
    exact ⟨Wf.nil, by simp, by omega, by omega, by omega, by omega⟩
  | i + 1, hi => by
    rw [sampRun_succ (by omega)]
    obtain ⟨a1, a2, a3, a4, a5, a6⟩ := sampRun_ok hw he hs i (by omega)
    have hsz := sizes0_at hw (i := i) (by omega) (by omega)
    simp only [giI, Int.toNat_natCast] at hsz
    simp only [sampStep]
    generalize lfI ((es.getD i []).getD 0 .g) = s at hsz ⊢
    generalize sampRun es every start i = st at a1 a2 a3 a4 a5 a6 ⊢
    have hb := innerN_le (stop := st.2.2 + s) he.1 he.2 _ st.2.1 0 (Nat.le_refl _) (by omega) (by omega)
    refine ⟨?_, ?_, by omega, by omega, by omega, by omega⟩
    · split
      · exact a1.append (Wf.cons rfl Wf.nil)
      · exact a1
    · split
      · simp; omega
      · omega
theorem sampleOf0_ok (es : List Rec) (every start : Int) : Wf zS (sampleOf0 es every start) ∧ (sampleOf0 es every start).length ≤ 200 := by
  unfold sampleOf0
  split
  · rename_i h
    simp only [sampleOk0, Bool.and_eq_true, decide_eq_true_eq, inR0_t] at h
    obtain ⟨a1, a2, _⟩ := sampRun_ok h.1.1 h.1.2.2 h.2 es.length (Nat.le_refl _)
    exact ⟨a1, by omega⟩
  · exact ⟨Wf.nil, by simp⟩
theorem sumTo_zero {es : List Rec} {every : Int} (h : sampleOk0 es every = false) : ∀ i, sumTo es every i = 0
  | 0 => rfl
  | i + 1 => by
    rw [sumTo_succ, sumTo_zero h i]
    simp [sampleOf0, h, cells0]
    rfl

theorem sub_one {every : Int} (h : inR0 every 1 1000 = true) : arI .sub .i64 every 1 = every - 1 := sub64 (by rw [inR0_t] at h; omega)
theorem sof_nil1 {es : List Rec} {every start : Int} (h : 200 < (es.length : Int)) : [DV.one (L.s 2 [])] = [DV.one (L.s 2 (sampleOf0 es every start))] := by
  have e : decide (es.length ≤ 200) = false := decide_eq_false (by omega)
  simp only [sampleOf0, sampleOk0, e, Bool.and_false, Bool.false_and, Bool.false_eq_true, if_false]
theorem sof_nil2 {es : List Rec} {every start : Int} (h : inR0 every 1 1000 = false) : [DV.one (L.s 2 [])] = [DV.one (L.s 2 (sampleOf0 es every start))] := by
  simp only [sampleOf0, sampleOk0, h, Bool.and_false, Bool.false_and, Bool.false_eq_true, if_false]
theorem sof_nil3 {es : List Rec} {every start : Int} (h1 : inR0 every 1 1000 = true) (h : inR0 start 0 (arI .sub .i64 every 1) = false) : [DV.one (L.s 2 [])] = [DV.one (L.s 2 (sampleOf0 es every start))] := by
  rw [sub_one h1] at h
  simp only [sampleOf0, h, Bool.and_false, Bool.false_and, Bool.false_eq_true, if_false]
theorem sof_nil4 {es : List Rec} {every start : Int} (h : sizes0 es = false) : [DV.one (L.s 2 [])] = [DV.one (L.s 2 (sampleOf0 es every start))] := by
  simp only [sampleOf0, sampleOk0, h, Bool.and_false, Bool.false_and, Bool.false_eq_true, if_false]

theorem sumS0_eq (es : List Rec) (every : Int) : sumS0 es every = sumTo es every every.toNat := by
  unfold sumS0
  split
  · rfl
  · rename_i h; rw [sumTo_zero (by simpa using h)]
theorem sampleOk0_every {es : List Rec} {every : Int} (h : 1000 < every) : sampleOk0 es every = false := by
  simp [sampleOk0, inR0]; intros; omega

end Go.V
