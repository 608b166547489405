/-
  A condition generator for functions on trees of data, part 5 of 5: values in memory, contracts, soundness.
-/
import Derived.Test.YtbfhhmjhdimjlaaVD

set_option linter.all false

/-
  The value-level condition generator, part 51: a table of contracts, as one thing.
-/
namespace Go.V
theorem onc (n : Nat) : Int.ofNat n = (n : Int) := rfl
/-- Contracts of the functions that a function calls. -/
structure TB (P : Program) where
  Φ : Type
  F0 : Φ
  ct : Φ → CT := noC
  mt : Φ → MT := noMT
  pt : Φ → PT := noPT
  nt : Φ → NT := noNT
  ot : Φ → OT := noOT
  hc : CTok P (ct F0) := by exact noC_ok
  hm : MTok P (mt F0) := by exact noMT_ok
  hp : PTok P (pt F0) := by exact noPT_ok
  hn : NTok P (nt F0) := by exact noNT_ok
  ho : OTok P (ot F0) := by exact noOT_ok
abbrev tb {P : Program} {Φ : Type} {F0 : Φ} {ct : Φ → CT} (hc : CTok P (ct F0)) : TB P := {Φ := Φ, F0 := F0, ct := ct, hc := hc}
section
variable {P : Program} {T : Tab} (B : TB P) (hT : TabOk P T) (hm : P.follows .mixedOrders = true) {f : FuncId} {fn : Func} {ds : List DV} (n : Nat) (c : Code) (ts : List TypeId) (rvs : List ResultVar)
include hT hm
theorem ctr_b {res : List DV} (hf : P.funcs[f]? = some fn) (hb : fn.body = some c) (hnt : fn.ntmps = n) (hts : fn.resultTypes.toList = ts) (hrv : fn.results.toList = rvs) (hn : Nat.ble ds.length n = true)
    (h : ∀ O r F, O = stdO → r = res → F = B.F0 → vwpO T O ⟨B.ct F, B.mt F, B.pt F, B.nt F, B.ot F⟩ n [] c (finQ T O ts rvs r) (initV 0 ds)) : Ctr P f ds res :=
  ctr_of hT B.hc B.hm B.hp B.hn B.ho hm n c ts rvs hf hb hnt hts hrv hn h
theorem mctr_b {res : List DV} {outs : List L} (locs : List (Nat × Nat)) (hf : P.funcs[f]? = some fn) (hb : fn.body = some c) (hnt : fn.ntmps = n) (hts : fn.resultTypes.toList = ts) (hrv : fn.results.toList = rvs) (hn : Nat.ble ds.length n = true) (hlo : (ds.flatMap fun d => slL (dvLeaves d)).length = outs.length) (hlo2 : locs.length = outs.length)
    (h : ∀ O r os F, O = stdO → r = res → os = (fun i => outs.getD i .g) → F = B.F0 → vwpO T O ⟨B.ct F, B.mt F, B.pt F, B.nt F, B.ot F⟩ n [] c (finM T O ts rvs locs r os) (initM O ds)) : MCtr P f ds outs res :=
  mctr_of hT B.hc B.hm B.hp B.hn B.ho hm n c ts rvs locs hf hb hnt hts hrv hn hlo hlo2 h
theorem pctr_b {res : List DV} {outs : List (List H)} (hf : P.funcs[f]? = some fn) (hb : fn.body = some c) (hnt : fn.ntmps = n) (hts : fn.resultTypes.toList = ts) (hrv : fn.results.toList = rvs) (hn : Nat.ble ds.length n = true) (hlo : (mpL 0 ds).length = outs.length) (hl0 : (mpL 0 ds).all (fun q => q.2.length.ble 999) = true)
    (h : ∀ O r os F, O = stdO → r = res → os = (fun i => outs.getD i []) → F = B.F0 → vwpO T O ⟨B.ct F, B.mt F, B.pt F, B.nt F, B.ot F⟩ n ((mpL 0 ds).map (·.1)) c (finP T O ts rvs (mpL 0 ds) r os) (initPs 0 ds)) : PCtr P f ds outs res :=
  pctr_of hT B.hc B.hm B.hp B.hn B.ho hm n c ts rvs hf hb hnt hts hrv hn hlo hl0 h
theorem nctr_b {res : List H} (hf : P.funcs[f]? = some fn) (hb : fn.body = some c) (hnt : fn.ntmps = n) (hts : fn.resultTypes.toList = ts) (hrv : fn.results.toList = rvs) (hn : Nat.ble ds.length n = true)
    (h : ∀ O r F, O = stdO → r = res → F = B.F0 → vwpO T O ⟨B.ct F, B.mt F, B.pt F, B.nt F, B.ot F⟩ n [] c (finN O rvs r) (initV 0 ds)) : NCtr P f ds res :=
  nctr_of hT B.hc B.hm B.hp B.hn B.ho hm n c ts rvs hf hb hnt hts hrv hn h
end
end Go.V

/-
  Trees of data: their size, marks written into all their rows.
-/
namespace Go.V

mutual
def cntL : L → Nat
  | .s _ es => es.length + cntEs es
  | _ => 0
def cntR : (List L) → Nat
  | [] => 0
  | l :: ls => cntL l + cntR ls
def cntEs : List (List L) → Nat
  | [] => 0
  | e :: es => cntR e + cntEs es
end
/-- The size of a row: its elements, and what lies below. -/
def cntE (es : List (List L)) : Nat := es.length + cntEs es
def cntRs : List (List (List L)) → Nat
  | [] => 0
  | r :: rs => cntE r + cntRs rs
def szN0 (rs : List (List (List L))) (left : Int) : Int := if left < cntRs rs then -1 else left - cntRs rs

mutual
/-- Marks from k on; the mark behind. -/
def msL : L → Int → L × Int
  | .v (.int kd _), k => (.v (.int kd k), k + 1)
  | .v (.bool _), k => (.v (.bool (k.tmod 3 == 0)), k + 1)
  | .s sz es, k => (.s sz (msEs es k).1, (msEs es k).2)
  | l, k => (l, k)
def msR : (List L) → Int → (List L) × Int
  | [], k => ([], k)
  | l :: ls, k => ((msL l k).1 :: (msR ls (msL l k).2).1, (msR ls (msL l k).2).2)
def msEs : List (List L) → Int → List (List L) × Int
  | [], k => ([], k)
  | e :: es, k => ((msR e k).1 :: (msEs es (msR e k).2).1, (msEs es (msR e k).2).2)
end
def mkN0 (es : List (List L)) (k : Int) : List (List L) := (msEs es k).1
def kN0 : List (List (List L)) → Int → Int
  | [], k => k
  | r :: rs, k => kN0 rs (msEs r k).2

theorem cntEs_append : ∀ {a b : List (List L)}, cntEs (a ++ b) = cntEs a + cntEs b
  | [], b => by simp [cntEs]
  | e :: a, b => by simp [cntEs, cntEs_append (a := a), Nat.add_assoc]
theorem cntRs_append : ∀ {a b : List (List (List L))}, cntRs (a ++ b) = cntRs a + cntRs b
  | [], b => by simp [cntRs]
  | e :: a, b => by simp [cntRs, cntRs_append (a := a), Nat.add_assoc]
theorem cntRs_one {r : List (List L)} : cntRs [r] = cntE r := by simp [cntRs]
theorem cntEs_at : ∀ {es : List (List L)} {n : Nat} {e : (List L)}, es[n]? = some e → cntEs (es.take n) + cntR e + cntEs (es.drop (n + 1)) = cntEs es
  | [], n, e, h => by simp at h
  | x :: es, 0, e, h => by simp at h; subst h; simp [cntEs]
  | x :: es, n + 1, e, h => by simp at h; have := cntEs_at h; simp [cntEs]; omega
theorem cntR_at : ∀ {ls : (List L)} {j : Nat} {l : L}, ls[j]? = some l → cntL l ≤ cntR ls
  | [], j, l, h => by simp at h
  | x :: ls, 0, l, h => by simp at h; subst h; simp [cntR]
  | x :: ls, j + 1, l, h => by simp at h; have := cntR_at h; simp [cntR]; omega

/-! ### Sizes -/
theorem szN_neg {a : List (List (List L))} {left : Int} : szN0 a left < 0 ↔ left < cntRs a := by
  unfold szN0; split <;> omega
theorem szN_pos {a : List (List (List L))} {left : Int} (h : 0 ≤ szN0 a left) : szN0 a left = left - cntRs a := by
  unfold szN0 at *; split at h
  · omega
  · rename_i c; rw [if_neg c]
theorem szN_app {a b : List (List (List L))} {left : Int} (h : 0 ≤ szN0 a left) : szN0 b (szN0 a left) = szN0 (a ++ b) left := by
  rw [szN_pos h]; unfold szN0; rw [cntRs_append]; split <;> split <;> omega
theorem szN_more {a b : List (List (List L))} {left : Int} (h : szN0 a left < 0) : szN0 (a ++ b) left = -1 := by
  rw [szN_neg] at h; unfold szN0; rw [cntRs_append, if_pos (by omega)]
theorem szN_neg1 {a : List (List (List L))} {left : Int} (h : szN0 a left < 0) : szN0 a left = -1 := by
  rw [szN_neg] at h; unfold szN0; rw [if_pos (by omega)]
theorem szN_le {a : List (List (List L))} {left : Int} (h : 0 ≤ szN0 a left) : szN0 a left ≤ left := by rw [szN_pos h]; omega

/-! ### Marks -/
theorem msEs_append : ∀ {a b : List (List L)} {k : Int}, msEs (a ++ b) k = ((msEs a k).1 ++ (msEs b (msEs a k).2).1, (msEs b (msEs a k).2).2)
  | [], b, k => by simp [msEs]
  | e :: a, b, k => by simp [msEs, msEs_append (a := a)]
theorem kN_app : ∀ {a b : List (List (List L))} {k : Int}, kN0 b (kN0 a k) = kN0 (a ++ b) k
  | [], b, k => rfl
  | r :: a, b, k => by simp only [kN0, List.cons_append]; exact kN_app
theorem kN_one {r : List (List L)} {k : Int} : kN0 [r] k = (msEs r k).2 := rfl
theorem msEs_length : ∀ {es : List (List L)} {k : Int}, (msEs es k).1.length = es.length
  | [], k => rfl
  | e :: es, k => by simp [msEs, msEs_length (es := es)]
theorem msR_length : ∀ {ls : (List L)} {k : Int}, (msR ls k).1.length = ls.length
  | [], k => rfl
  | e :: es, k => by simp [msR, msR_length (ls := es)]
theorem mkN_length {es : List (List L)} {k : Int} : (mkN0 es k).length = es.length := msEs_length
/-- The first n elements marked. -/
def mkTo (es : List (List L)) (k : Int) (n : Nat) : List (List L) := (msEs (es.take n) k).1 ++ es.drop n
def kTo (es : List (List L)) (k : Int) (n : Nat) : Int := (msEs (es.take n) k).2
theorem mkTo_zero {es : List (List L)} {k : Int} : mkTo es k 0 = es := by simp [mkTo, msEs]
theorem kTo_zero {es : List (List L)} {k : Int} : kTo es k 0 = k := by simp [kTo, msEs]
theorem mkTo_all {es : List (List L)} {k : Int} : mkTo es k es.length = mkN0 es k := by simp [mkTo, mkN0]
theorem kTo_all {es : List (List L)} {k : Int} : kTo es k es.length = kN0 [es] k := by simp [kTo, kN0]
theorem mkTo_length {es : List (List L)} {k : Int} {n : Nat} (hn : n ≤ es.length) : (mkTo es k n).length = es.length := by simp [mkTo, msEs_length]; omega
theorem mkTo_getD {es : List (List L)} {k : Int} {n : Nat} (hn : n ≤ es.length) : (mkTo es k n).getD n [] = es.getD n [] := by
  unfold mkTo
  simp only [List.getD_eq_getElem?_getD]
  have hl : (msEs (es.take n) k).1.length = n := by rw [msEs_length, List.length_take]; omega
  rw [List.getElem?_append_right (by omega), hl]
  simp
theorem mkTo_set {es : List (List L)} {k : Int} {n : Nat} (hn : n < es.length) : (mkTo es k n).set n (msR (es.getD n []) (kTo es k n)).1 = mkTo es k (n + 1) := by
  unfold mkTo kTo
  have hl : (msEs (es.take n) k).1.length = n := by rw [msEs_length, List.length_take]; omega
  rw [List.set_append_right _ _ (by omega), hl, getD_take_succ (d := []) hn, msEs_append]
  simp only [Nat.sub_self]
  rw [List.drop_eq_getElem_cons hn, List.set_cons_zero]
  simp [msEs]
theorem kTo_succ {es : List (List L)} {k : Int} {n : Nat} (hn : n < es.length) : kTo es k (n + 1) = (msR (es.getD n []) (kTo es k n)).2 := by
  unfold kTo
  rw [getD_take_succ (d := []) hn, msEs_append]
  simp [msEs]
theorem mkN_at {es : List (List L)} {k : Int} {n : Nat} (hn : n < es.length) : (mkN0 es k).getD n [] = (msR (es.getD n []) (kTo es k n)).1 := by
  have h1 : es = es.take n ++ (es.getD n [] :: es.drop (n + 1)) := by
    conv => lhs; rw [← List.take_append_drop n es, List.drop_eq_getElem_cons hn]
    simp [List.getD, hn]
  unfold mkN0 kTo
  conv => lhs; rw [h1]
  rw [msEs_append]
  simp only [List.getD_eq_getElem?_getD]
  have hl : (msEs (es.take n) k).1.length = n := by rw [msEs_length, List.length_take]; omega
  rw [List.getElem?_append_right (by omega), hl]
  simp [msEs]

mutual
/-- Marks don't change sizes. -/
theorem cntL_mk : ∀ (l : L) (k : Int), cntL (msL l k).1 = cntL l
  | .v x, k => by cases x <;> simp [msL, cntL]
  | .s sz es, k => by simp only [msL, cntL]; rw [msEs_length, cntEs_mk es k]
  | .g, k => by simp [msL, cntL]
  | .m _ _, k => by simp [msL, cntL]
theorem cntR_mk : ∀ (ls : (List L)) (k : Int), cntR (msR ls k).1 = cntR ls
  | [], k => rfl
  | l :: ls, k => by simp only [msR, cntR]; rw [cntL_mk l k, cntR_mk ls _]
theorem cntEs_mk : ∀ (es : List (List L)) (k : Int), cntEs (msEs es k).1 = cntEs es
  | [], k => rfl
  | e :: es, k => by simp only [msEs, cntEs]; rw [cntR_mk e k, cntEs_mk es _]
end
mutual
/-- The mark behind: by the tree alone. -/
theorem msL_k : ∀ (l : L) (k : Int), (msL l k).2 = k + (msL l 0).2
  | .v x, k => by cases x <;> simp [msL]
  | .s sz es, k => by simp only [msL]; exact msEs_k es k
  | .g, k => by simp [msL]
  | .m _ _, k => by simp [msL]
theorem msR_k : ∀ (ls : (List L)) (k : Int), (msR ls k).2 = k + (msR ls 0).2
  | [], k => by simp [msR]
  | l :: ls, k => by
    simp only [msR]
    rw [msR_k ls (msL l k).2, msL_k l k, msR_k ls (msL l 0).2]; omega
theorem msEs_k : ∀ (es : List (List L)) (k : Int), (msEs es k).2 = k + (msEs es 0).2
  | [], k => by simp [msEs]
  | e :: es, k => by
    simp only [msEs]
    rw [msEs_k es (msR e k).2, msR_k e k, msEs_k es (msR e 0).2]; omega
end
mutual
/-- Marked again: the same marks. -/
theorem msL_mk : ∀ (l : L) (k k' : Int), (msL (msL l k).1 k').2 = (msL l k').2
  | .v x, k, k' => by cases x <;> simp [msL]
  | .s sz es, k, k' => by simp only [msL]; exact msEs_mk es k k'
  | .g, k, k' => by simp [msL]
  | .m _ _, k, k' => by simp [msL]
theorem msR_mk : ∀ (ls : (List L)) (k k' : Int), (msR (msR ls k).1 k').2 = (msR ls k').2
  | [], k, k' => rfl
  | l :: ls, k, k' => by simp only [msR]; rw [msR_mk ls _ _, msL_mk l k k']
theorem msEs_mk : ∀ (es : List (List L)) (k k' : Int), (msEs (msEs es k).1 k').2 = (msEs es k').2
  | [], k, k' => rfl
  | e :: es, k, k' => by simp only [msEs]; rw [msEs_mk es _ _, msR_mk e k k']
end
theorem kN_mk {es : List (List L)} {k k' : Int} : kN0 [mkN0 es k] k' = kN0 [es] k' := msEs_mk es k k'
theorem kTo_k {es : List (List L)} {k : Int} {n : Nat} : kTo es k n = k + kTo es 0 n := msEs_k _ _
theorem kN_k : ∀ {rs : List (List (List L))} {k : Int}, kN0 rs k = k + kN0 rs 0
  | [], k => by simp [kN0]
  | r :: rs, k => by simp only [kN0]; rw [kN_k (k := (msEs r k).2), msEs_k r k, kN_k (k := (msEs r 0).2)]; omega
mutual
theorem msL_0 : ∀ (l : L), 0 ≤ (msL l 0).2
  | .v x => by cases x <;> simp [msL]
  | .s sz es => by simp only [msL]; exact msEs_0 es
  | .g => by simp [msL]
  | .m _ _ => by simp [msL]
theorem msR_0 : ∀ (ls : (List L)), 0 ≤ (msR ls 0).2
  | [] => by simp [msR]
  | l :: ls => by simp only [msR]; rw [msR_k]; have := msL_0 l; have := msR_0 ls; omega
theorem msEs_0 : ∀ (es : List (List L)), 0 ≤ (msEs es 0).2
  | [] => by simp [msEs]
  | e :: es => by simp only [msEs]; rw [msEs_k]; have := msR_0 e; have := msEs_0 es; omega
end
theorem kN_0 : ∀ {rs : List (List (List L))}, 0 ≤ kN0 rs 0
  | [] => by simp [kN0]
  | r :: rs => by simp only [kN0]; rw [kN_k]; have := msEs_0 r; have := kN_0 (rs := rs); omega
theorem kTo_mono {es : List (List L)} {n : Nat} (hn : n < es.length) : kTo es 0 n ≤ kTo es 0 (n + 1) := by
  rw [kTo_succ hn, msR_k]; have := msR_0 (es.getD n []); omega
theorem kTo_le {es : List (List L)} : ∀ {m n : Nat}, n ≤ es.length → m ≤ n → kTo es 0 m ≤ kTo es 0 n
  | m, 0, _, h => by rw [show m = 0 from by omega]; exact Int.le_refl _
  | m, n + 1, hn, h => by
    rcases Nat.lt_or_ge m (n + 1) with c | c
    · have := kTo_le (es := es) (m := m) (n := n) (by omega) (by omega)
      have := kTo_mono (es := es) (n := n) (by omega)
      omega
    · rw [show m = n + 1 from by omega]; exact Int.le_refl _

/-! ### Marks are few -/
def wid : Ty → Nat
  | .sl _ => 0
  | _ => 1
mutual
/-- How many marks an element's cells take at most, but for its rows. -/
def mcL : L → Int
  | .s _ es => mcEs es
  | _ => 1
def mcR : (List L) → Int
  | [] => 0
  | l :: ls => mcL l + mcR ls
def mcEs : List (List L) → Int
  | [] => 0
  | e :: es => mcR e + mcEs es
end
mutual
theorem msL_mc : ∀ (l : L), (msL l 0).2 ≤ mcL l
  | .v x => by cases x <;> simp [msL, mcL]
  | .s sz es => by simp only [msL, mcL]; exact msEs_mc es
  | .g => by simp [msL, mcL]
  | .m _ _ => by simp [msL, mcL]
theorem msR_mc : ∀ (ls : (List L)), (msR ls 0).2 ≤ mcR ls
  | [] => by simp [msR, mcR]
  | l :: ls => by simp only [msR, mcR]; rw [msR_k]; have := msL_mc l; have := msR_mc ls; omega
theorem msEs_mc : ∀ (es : List (List L)), (msEs es 0).2 ≤ mcEs es
  | [] => by simp [msEs, mcEs]
  | e :: es => by simp only [msEs, mcEs]; rw [msEs_k]; have := msR_mc e; have := msEs_mc es; omega
end
end Go.V

/-
  Rows of well-formed records; cells of rows that are written.
-/
namespace Go.V

/-- A row whose elements are of a form. -/
abbrev Rw (fs : List Ty) (es : List (List L)) : Prop := es.length ≤ maxLen ∧ ∀ e ∈ es, confR fs e
abbrev tI : Ty := .int .i64
abbrev tB : Ty := .bool
mutual
def zL : Ty → L
  | .int k => .v (.int k 0)
  | .bool => .v (.bool false)
  | .str => .v (.string .empty)
  | .sl fs => .s fs.length []
def zR : List Ty → (List L)
  | [] => []
  | t :: ts => zL t :: zR ts
end
theorem conf_fit : ∀ {fs : List Ty} {e : (List L)}, confR fs e → fitZ (zR fs) e = true
  | [], [], _ => rfl
  | [], _ :: _, h => h.elim
  | _ :: _, [], h => h.elim
  | t :: ts, l :: ls, h => by
    obtain ⟨h1, h2⟩ := h
    simp only [zR, fitZ, Bool.and_eq_true]
    refine ⟨?_, conf_fit h2⟩
    cases t with
    | int k => cases l with
      | v x => cases x with
        | int k' n => simp only [confL] at h1; simp [zL, fitL, h1.1]
        | _ => simp [confL] at h1
      | _ => simp [confL] at h1
    | bool => cases l with
      | v x => cases x with
        | bool b => rfl
        | _ => simp [confL] at h1
      | _ => simp [confL] at h1
    | str => cases l with
      | v x => cases x with
        | string b => rfl
        | _ => simp [confL] at h1
      | _ => simp [confL] at h1
    | sl fs => cases l with
      | s sz es => simp only [confL] at h1; simp [zL, fitL, h1.1]
      | _ => simp [confL] at h1
theorem Rw.wf {fs : List Ty} {es : List (List L)} (h : Rw fs es) : Wf (zR fs) es := fun e he => conf_fit (h.2 e he)
theorem Rw.at {fs : List Ty} {es : List (List L)} (h : Rw fs es) {n : Nat} (hn : n < es.length) : confR fs (es.getD n []) := by
  refine h.2 _ ?_
  rw [List.getD_eq_getElem?_getD, List.getElem?_eq_getElem hn]; exact List.getElem_mem _
theorem Rw.eta {fs : List Ty} {es : List (List L)} (h : Rw fs es) {i : Int} (h0 : 0 ≤ i) (h1 : i < es.length) : es.getD i.toNat [] = etaE stdO es i 0 (zR fs) := (etaE_whole h.wf h0 h1).symm
theorem confR_sub : ∀ {fs : List Ty} {e : (List L)} {j : Nat} {gs : List Ty}, confR fs e → fs[j]? = some (.sl gs) → ∃ es', e[j]? = some (.s gs.length es') ∧ Rw gs es'
  | [], _, j, gs, _, h => by simp at h
  | _ :: _, [], j, gs, h, _ => h.elim
  | t :: ts, l :: ls, 0, gs, h, e => by
    simp at e; subst e
    have h1 := h.1
    cases l with
    | s sz es => simp only [confL] at h1; exact ⟨es, by simp [h1.1], h1.2⟩
    | _ => simp [confL] at h1
  | t :: ts, l :: ls, j + 1, gs, h, e => by
    simp at e
    obtain ⟨es', h1, h2⟩ := confR_sub h.2 e
    exact ⟨es', by simpa using h1, h2⟩
theorem Rw.sub {fs : List Ty} {es : List (List L)} (h : Rw fs es) {i : Int} (hn : i.toNat < es.length) {j : Nat} {gs : List Ty} (hj : fs[j]? = some (.sl gs)) : Rw gs (gsI es i j) := by
  obtain ⟨es', h1, h2⟩ := confR_sub (h.at hn) hj
  unfold gsI
  rw [List.getD_eq_getElem?_getD (l := es.getD i.toNat []), h1]
  exact h2
theorem Rw.nil {fs : List Ty} : Rw fs [] := ⟨Nat.zero_le _, by simp⟩
theorem Rw.take {fs : List Ty} {es : List (List L)} (h : Rw fs es) (n : Nat) : Rw fs (es.take n) := ⟨by rw [List.length_take]; exact Nat.le_trans (Nat.min_le_right _ _) h.1, fun e he => h.2 e (List.mem_of_mem_take he)⟩
theorem Rw.drop {fs : List Ty} {es : List (List L)} (h : Rw fs es) (n : Nat) : Rw fs (es.drop n) := ⟨by rw [List.length_drop]; exact Nat.le_trans (Nat.sub_le _ _) h.1, fun e he => h.2 e (List.mem_of_mem_drop he)⟩
theorem Rw.append {fs : List Ty} {a b : List (List L)} (ha : Rw fs a) (hb : Rw fs b) (hl : a.length + b.length ≤ maxLen) : Rw fs (a ++ b) := ⟨by simpa using hl, fun e he => by rcases List.mem_append.1 he with q | q; exact ha.2 e q; exact hb.2 e q⟩
theorem Rw.one {fs : List Ty} {e : (List L)} (h : confR fs e) : Rw fs [e] := ⟨by simp [maxLen], by simpa using h⟩
theorem Rw.set {fs : List Ty} {es : List (List L)} (h : Rw fs es) {e : (List L)} (he : confR fs e) (n : Nat) : Rw fs (es.set n e) := ⟨by simpa using h.1, fun x hx => by rcases List.mem_or_eq_of_mem_set hx with q | q; exact h.2 x q; rw [q]; exact he⟩
theorem Rw.replicate {fs : List Ty} {e : (List L)} (h : confR fs e) {n : Nat} (hn : n ≤ maxLen) : Rw fs (List.replicate n e) := ⟨by simpa using hn, fun x hx => by rw [List.eq_of_mem_replicate hx]; exact h⟩

def tyScal : Ty → Bool
  | .sl _ => false
  | _ => true
theorem confL_scal {t : Ty} {l : L} (h : confL t l) (hs : tyScal t = true) : ∃ x, l = .v x := by
  cases t with
  | sl fs => cases hs
  | int k => cases l with
    | v x => exact ⟨x, rfl⟩
    | _ => simp [confL] at h
  | bool => cases l with
    | v x => exact ⟨x, rfl⟩
    | _ => simp [confL] at h
  | str => cases l with
    | v x => exact ⟨x, rfl⟩
    | _ => simp [confL] at h
theorem flat_cntR : ∀ {fs : List Ty} {e : (List L)}, fs.all tyScal = true → confR fs e → cntR e = 0
  | [], [], _, _ => rfl
  | [], _ :: _, _, h => h.elim
  | _ :: _, [], _, h => h.elim
  | t :: ts, l :: ls, hs, h => by
    simp only [List.all_cons, Bool.and_eq_true] at hs
    obtain ⟨x, rfl⟩ := confL_scal h.1 hs.1
    simp only [cntR, cntL]; rw [flat_cntR hs.2 h.2]
theorem flat_cnt {fs : List Ty} (hs : fs.all tyScal = true) : ∀ {es : List (List L)}, (∀ e ∈ es, confR fs e) → cntEs es = 0
  | [], _ => rfl
  | e :: es, h => by simp only [cntEs]; rw [flat_cntR hs (h e (by simp)), flat_cnt hs (fun x hx => h x (by simp [hx]))]
theorem Rw.cnt {fs : List Ty} {es : List (List L)} (h : Rw fs es) (hs : fs.all tyScal = true) : cntE es = es.length := by unfold cntE; rw [flat_cnt hs h.2]; rfl
theorem Rw.scal {fs : List Ty} {es : List (List L)} (h : Rw fs es) (hs : fs.all tyScal = true) : scalRecs es := by
  have key : ∀ {fs : List Ty} {e : (List L)}, fs.all tyScal = true → confR fs e → scalRec e := by
    intro fs
    induction fs with
    | nil => intro e _ h; cases e with
      | nil => trivial
      | cons _ _ => exact h.elim
    | cons t ts ih =>
      intro e hs h
      cases e with
      | nil => exact h.elim
      | cons l ls =>
        simp only [List.all_cons, Bool.and_eq_true] at hs
        obtain ⟨x, rfl⟩ := confL_scal h.1 hs.1
        exact (ih hs.2 h.2 : scalRec ls)
  have : ∀ {es : List (List L)}, (∀ e ∈ es, confR fs e) → scalRecs es := by
    intro es
    induction es with
    | nil => intro _; trivial
    | cons e es ih => intro h; exact ⟨key hs (h e (by simp)), ih (fun x hx => h x (by simp [hx]))⟩
  exact this h.2
theorem cntE_at {es : List (List L)} {n : Nat} (hn : n < es.length) : cntEs (es.take (n + 1)) = cntEs (es.take n) + cntR (es.getD n []) := by
  rw [getD_take_succ (d := []) hn, cntEs_append]; simp [cntEs]
theorem cntEs_take_le {es : List (List L)} {n : Nat} : cntEs (es.take n) ≤ cntEs es := by
  conv => rhs; rw [← List.take_append_drop n es, cntEs_append]
  omega
theorem cntE_nil : cntE [] = 0 := rfl

/-! ### Cells that are written -/
theorem upI_cell {sz : Nat} {es : List (List L)} {n o : Nat} {new : (List L)} : upI (.s sz es) [(n, o)] new = es.set n ((es.getD n []).take o ++ new ++ (es.getD n []).drop (o + new.length)) := rfl
theorem psI_one {sz : Nat} {c : List (List L)} {n j : Nat} : psI (.s sz c) [(n, j)] = lfS ((c.getD n []).getD j .g) := by
  unfold psI getS
  simp only [getR]
  cases h : c[n]? with
  | none => simp [List.getD, h, lfS]
  | some rec =>
    simp only [Option.map_some, List.getD, h, Option.getD_some]
    cases h2 : rec[j]? with
    | none => simp [lfS]
    | some l => cases l <;> simp [lfS]
theorem getD_set_same {c : List (List L)} {n : Nat} {r : (List L)} (h : n < c.length) : (c.set n r).getD n [] = r := by simp [List.getD, h]
theorem getR_set {sz : Nat} {c : List (List L)} {n j : Nat} {r : (List L)} (h : n < c.length) : getR (.s sz (c.set n r)) [(n, j)] = some (r, j) := by simp [getR, h]
theorem getR_at {sz : Nat} {c : List (List L)} {n j : Nat} (h : n < c.length) : getR (.s sz c) [(n, j)] = some (c.getD n [], j) := by simp [getR, List.getD, h]
theorem getS_set {sz : Nat} {c : List (List L)} {n j : Nat} {r : (List L)} (h : n < c.length) : getS (.s sz (c.set n r)) [(n, j)] = match r[j]? with
    | some (.s sz es) => some (sz, es)
    | _ => none := by unfold getS; rw [getR_set h]; rfl
theorem getS_at {sz : Nat} {c : List (List L)} {n j : Nat} (h : n < c.length) : getS (.s sz c) [(n, j)] = match (c.getD n [])[j]? with
    | some (.s sz es) => some (sz, es)
    | _ => none := by unfold getS; rw [getR_at h]; rfl
theorem kN_pre {a b : List (List (List L))} {k : Int} (hk : 0 ≤ k) : kN0 a k ≤ kN0 (a ++ b) k ∧ 0 ≤ kN0 a k := by
  rw [← kN_app, kN_k (rs := b), kN_k (rs := a)]
  have := kN_0 (rs := a); have := kN_0 (rs := b); omega
theorem fit_msL {l : L} {k : Int} {z : L} (h : fitL z l = true) : fitL z (msL l k).1 = true := by
  cases l with
  | v x => cases x <;> cases z <;> simp_all [msL, fitL] <;> (rename_i y; cases y <;> simp_all [fitL])
  | s sz es => cases z <;> simp_all [msL, fitL]
  | g => exact h
  | m _ _ => exact h
theorem fit_msR : ∀ {z e : (List L)} {k : Int}, fitZ z e = true → fitZ z (msR e k).1 = true
  | [], [], _, _ => rfl
  | [], _ :: _, _, h => by simp [fitZ] at h
  | _ :: _, [], _, h => by simp [fitZ] at h
  | z :: zs, l :: ls, k, h => by
    simp only [fitZ, Bool.and_eq_true, msR] at h ⊢
    exact ⟨fit_msL h.1, fit_msR h.2⟩
theorem fit_msEs : ∀ {z : (List L)} {es : List (List L)} {k : Int}, Wf z es → Wf z (msEs es k).1
  | z, [], _, _ => fun e he => by cases he
  | z, e :: es, k, h => by
    intro x hx
    simp only [msEs, List.mem_cons] at hx
    rcases hx with rfl | hx
    · exact fit_msR (h e (by simp))
    · exact fit_msEs (fun y hy => h y (by simp [hy])) x hx
theorem conf_mk_wf {fs : List Ty} {es : List (List L)} {k : Int} (h : Rw fs es) : Wf (zR fs) (mkN0 es k) := fit_msEs h.wf

end Go.V

/-
  Marks are few; what the laws ask of rows.
-/
namespace Go.V

mutual
def twL : Ty → Nat
  | .sl fs => twR fs
  | _ => 1
def twR : List Ty → Nat
  | [] => 0
  | t :: ts => twL t + twR ts
end
theorem cntR_le_cons {l : L} {ls : (List L)} : cntR ls ≤ cntR (l :: ls) := by simp [cntR]
mutual
theorem marksL : ∀ (t : Ty) (l : L), confL t l → (msL l 0).2 ≤ (twL t * (cntL l + 1) : Nat)
  | .int k, .v x, h => by cases x <;> simp [msL, cntL, twL]
  | .int k, .s _ _, h => by simp [confL] at h
  | .int k, .g, h => by simp [confL] at h
  | .bool, .v x, h => by cases x <;> simp [msL, cntL, twL]
  | .bool, .s _ _, h => by simp [confL] at h
  | .bool, .g, h => by simp [confL] at h
  | .str, .v x, h => by cases x <;> simp [msL, cntL, twL]
  | .str, .s _ _, h => by simp [confL] at h
  | .str, .g, h => by simp [confL] at h
  | .sl fs, .v x, h => by simp [confL] at h
  | .sl fs, .g, h => by simp [confL] at h
  | .sl fs, .s sz es, h => by
    have h1 := marksEs fs es (by simp only [confL] at h; exact h.2.2)
    simp only [msL, cntL, twL]
    have : twR fs * (es.length + cntEs es) ≤ twR fs * (es.length + cntEs es + 1) := Nat.mul_le_mul_left _ (by omega)
    omega
theorem marksR : ∀ (ts : List Ty) (ls : (List L)), confR ts ls → (msR ls 0).2 ≤ (twR ts * (cntR ls + 1) : Nat)
  | [], [], _ => by simp only [msR]; exact Int.natCast_nonneg _
  | [], _ :: _, h => h.elim
  | _ :: _, [], h => h.elim
  | t :: ts, l :: ls, h => by
    have h1 := marksL t l h.1
    have h2 := marksR ts ls h.2
    simp only [msR]
    rw [msR_k]
    have e1 : twL t * (cntL l + 1) ≤ twL t * (cntR (l :: ls) + 1) := Nat.mul_le_mul_left _ (by simp [cntR])
    have e2 : twR ts * (cntR ls + 1) ≤ twR ts * (cntR (l :: ls) + 1) := Nat.mul_le_mul_left _ (by simp [cntR])
    have e3 : twR (t :: ts) * (cntR (l :: ls) + 1) = twL t * (cntR (l :: ls) + 1) + twR ts * (cntR (l :: ls) + 1) := by simp only [twR]; rw [Nat.add_mul]
    omega
theorem marksEs : ∀ (ts : List Ty) (es : List (List L)), (∀ e ∈ es, confR ts e) → (msEs es 0).2 ≤ (twR ts * (es.length + cntEs es) : Nat)
  | ts, [], _ => by simp only [msEs]; exact Int.natCast_nonneg _
  | ts, e :: es, h => by
    have h1 := marksR ts e (h e (by simp))
    have h2 := marksEs ts es (fun x hx => h x (by simp [hx]))
    simp only [msEs]
    rw [msEs_k]
    have e3 : twR ts * ((e :: es).length + cntEs (e :: es)) = twR ts * (cntR e + 1) + twR ts * (es.length + cntEs es) := by
      rw [← Nat.mul_add]; congr 1; simp [cntEs]; omega
    omega
end
/-- The marks of a row. -/
theorem Rw.marks {fs : List Ty} {es : List (List L)} (h : Rw fs es) (hw : twR fs ≤ 64) : (msEs es 0).2 ≤ (64 * cntE es : Nat) := by
  have := marksEs fs es h.2
  have h2 : twR fs * (es.length + cntEs es) ≤ 64 * (es.length + cntEs es) := Nat.mul_le_mul_right _ hw
  unfold cntE
  omega
theorem kN_bound : ∀ {rs : List (List (List L))} {k : Int}, (∀ r ∈ rs, (msEs r 0).2 ≤ (64 * cntE r : Nat)) → kN0 rs k ≤ k + (64 * cntRs rs : Nat)
  | [], k, _ => by simp [kN0, cntRs]
  | r :: rs, k, h => by
    simp only [kN0, cntRs]
    have h1 := h r (by simp)
    have h2 := kN_bound (rs := rs) (k := (msEs r k).2) (fun x hx => h x (by simp [hx]))
    rw [msEs_k] at h2
    rw [msEs_k r k]
    have : 64 * (cntE r + cntRs rs) = 64 * cntE r + 64 * cntRs rs := Nat.mul_add _ _ _
    omega
theorem kN_small {rs : List (List (List L))} {k : Int} (h : ∀ r ∈ rs, (msEs r 0).2 ≤ (64 * cntE r : Nat)) (hk : 0 ≤ k ∧ k ≤ 1000) (hc : cntRs rs ≤ 1099511627776) : kN0 rs k ≤ 1152921504606846976 := by
  have := kN_bound (k := k) h
  have : 64 * cntRs rs ≤ 64 * 1099511627776 := Nat.mul_le_mul_left _ hc
  omega
theorem kN_pos {rs : List (List (List L))} {k : Int} (hk : 0 ≤ k) : ¬ kN0 rs k < 0 := by
  rw [kN_k]; have := kN_0 (rs := rs); omega
theorem szN_ok {rs : List (List (List L))} (h : ¬ szN0 rs 1048576 < 0) : cntRs rs ≤ 1048576 := by rw [szN_neg] at h; omega
theorem szN_no {rs : List (List (List L))} (h : cntRs rs ≤ 1048576) : ¬ szN0 rs 1048576 < 0 := by rw [szN_neg]; omega
theorem subI_mk {es : List (List L)} {k : Int} : subI (mkN0 es k) 0 es.length = mkN0 es k := by
  rw [← mkN_length (es := es) (k := k), sub_all]
end Go.V
