/-
  A condition generator for functions on trees of data, part 5 of 5: values in memory, contracts, soundness.
-/import Derived.Test.YticfhgfgobafbaaGreatVD
set_option linter.all false
/-
 Rows of well-formed records; cells of rows that are written.
-/
namespace Go.V
abbrev Rw (fs : List Ty) (es : List (List L)) : Prop := es.length <= maxLen /\ ∀ e ∈ es, confR fs e
abbrev tI : Ty := .int .i64
abbrev tB : Ty := .bool
mutual
def zL : Ty -> L
 | .int k => .v (.int k 0)
 | .bool => .v (.bool false)
 | .str => .v (.string .empty)
 | .sl fs => .s fs.length []
def zR : List Ty -> (List L)
 | [] => []
 | t :: ts => zL t :: zR ts
end
theorem conf_fit : ∀ {fs : List Ty} {e : (List L)}, confR fs e -> fitZ (zR fs) e = true
 | [], [], _ => rfl
 | [], _ :: _, h => h.elim
 | _ :: _, [], h => h.elim
 | t :: ts, l :: ls, h => by
   obtain ⟨h1, h2⟩ := h
   simp only [zR, fitZ, Bool.and_eq_true]
   refine ⟨?_, conf_fit h2⟩
   cases t with
   | int k => cases l with
     | v x => cases x with
       | int k' n => simp only [confL] at h1; simp [zL, fitL, h1.1]
       | _ => simp [confL] at h1
     | _ => simp [confL] at h1
   | bool => cases l with
     | v x => cases x with
       | bool b => rfl
       | _ => simp [confL] at h1
     | _ => simp [confL] at h1
   | str => cases l with
     | v x => cases x with
       | string b => rfl
       | _ => simp [confL] at h1
     | _ => simp [confL] at h1
   | sl fs => cases l with
     | s sz es => simp only [confL] at h1; simp [zL, fitL, h1.1]
     | _ => simp [confL] at h1
theorem Rw.wf {fs : List Ty} {es : List (List L)} (h : Rw fs es) : Wf (zR fs) es := fun e he => conf_fit (h.2 e he)
theorem Rw.at {fs : List Ty} {es : List (List L)} (h : Rw fs es) {n : Nat} (hn : n < es.length) : confR fs (es.getD n []) := by
 refine h.2 _ ?_
 rw [List.getD_eq_getElem?_getD, List.getElem?_eq_getElem hn]; exact List.getElem_mem _
theorem Rw.eta {fs : List Ty} {es : List (List L)} (h : Rw fs es) {i : Int} (h0 : 0 <= i) (h1 : i < es.length) : es.getD i.toNat [] = etaE stdO es i 0 (zR fs) := (etaE_whole h.wf h0 h1).symm
theorem confR_sub : ∀ {fs : List Ty} {e : (List L)} {j : Nat} {gs : List Ty}, confR fs e -> fs[j]? = some (.sl gs) -> ∃ es', e[j]? = some (.s gs.length es') /\ Rw gs es'
 | [], _, j, gs, _, h => by simp at h
 | _ :: _, [], j, gs, h, _ => h.elim
 | t :: ts, l :: ls, 0, gs, h, e => by
   simp at e; subst e
   have h1 := h.1
   cases l with
   | s sz es => simp only [confL] at h1; exact ⟨es, by simp [h1.1], h1.2⟩
   | _ => simp [confL] at h1
 | t :: ts, l :: ls, j + 1, gs, h, e => by
   simp at e
   obtain ⟨es', h1, h2⟩ := confR_sub h.2 e
   exact ⟨es', by simpa using h1, h2⟩
theorem Rw.sub {fs : List Ty} {es : List (List L)} (h : Rw fs es) {i : Int} (hn : i.toNat < es.length) {j : Nat} {gs : List Ty} (hj : fs[j]? = some (.sl gs)) : Rw gs (gsI es i j) := by
 obtain ⟨es', h1, h2⟩ := confR_sub (h.at hn) hj
 unfold gsI
 rw [List.getD_eq_getElem?_getD (l := es.getD i.toNat []), h1]
 exact h2
theorem Rw.nil {fs : List Ty} : Rw fs [] := ⟨Nat.zero_le _, by simp⟩
theorem Rw.take {fs : List Ty} {es : List (List L)} (h : Rw fs es) (n : Nat) : Rw fs (es.take n) := ⟨by rw [List.length_take]; exact Nat.le_trans (Nat.min_le_right _ _) h.1, fun e he => h.2 e (List.mem_of_mem_take he)⟩
theorem Rw.drop {fs : List Ty} {es : List (List L)} (h : Rw fs es) (n : Nat) : Rw fs (es.drop n) := ⟨by rw [List.length_drop]; exact Nat.le_trans (Nat.sub_le _ _) h.1, fun e he => h.2 e (List.mem_of_mem_drop he)⟩
theorem Rw.append {fs : List Ty} {a b : List (List L)} (ha : Rw fs a) (hb : Rw fs b) (hl : a.length + b.length <= maxLen) : Rw fs (a ++ b) := ⟨by simpa using hl, fun e he => by rcases List.mem_append.1 he with q | q; exact ha.2 e q; exact hb.2 e q⟩
theorem Rw.one {fs : List Ty} {e : (List L)} (h : confR fs e) : Rw fs [e] := ⟨by simp [maxLen], by simpa using h⟩
theorem Rw.set {fs : List Ty} {es : List (List L)} (h : Rw fs es) {e : (List L)} (he : confR fs e) (n : Nat) : Rw fs (es.set n e) := ⟨by simpa using h.1, fun x hx => by rcases List.mem_or_eq_of_mem_set hx with q | q; exact h.2 x q; rw [q]; exact he⟩
theorem Rw.replicate {fs : List Ty} {e : (List L)} (h : confR fs e) {n : Nat} (hn : n <= maxLen) : Rw fs (List.replicate n e) := ⟨by simpa using hn, fun x hx => by rw [List.eq_of_mem_replicate hx]; exact h⟩
def tyScal : Ty -> Bool
 | .sl _ => false
 | _ => true
theorem confL_scal {t : Ty} {l : L} (h : confL t l) (hs : tyScal t = true) : ∃ x, l = .v x := by
 cases t with
 | sl fs => cases hs
 | int k => cases l with
   | v x => exact ⟨x, rfl⟩
   | _ => simp [confL] at h
 | bool => cases l with
   | v x => exact ⟨x, rfl⟩
   | _ => simp [confL] at h
 | str => cases l with
   | v x => exact ⟨x, rfl⟩
   | _ => simp [confL] at h
theorem flat_cntR : ∀ {fs : List Ty} {e : (List L)}, fs.all tyScal = true -> confR fs e -> cntR e = 0
 | [], [], _, _ => rfl
 | [], _ :: _, _, h => h.elim
 | _ :: _, [], _, h => h.elim
 | t :: ts, l :: ls, hs, h => by
   simp only [List.all_cons, Bool.and_eq_true] at hs
   obtain ⟨x, rfl⟩ := confL_scal h.1 hs.1
   simp only [cntR, cntL]; rw [flat_cntR hs.2 h.2]
theorem flat_cnt {fs : List Ty} (hs : fs.all tyScal = true) : ∀ {es : List (List L)}, (∀ e ∈ es, confR fs e) -> cntEs es = 0
 | [], _ => rfl
 | e :: es, h => by simp only [cntEs]; rw [flat_cntR hs (h e (by simp)), flat_cnt hs (fun x hx => h x (by simp [hx]))]
theorem Rw.cnt {fs : List Ty} {es : List (List L)} (h : Rw fs es) (hs : fs.all tyScal = true) : cntE es = es.length := by unfold cntE; rw [flat_cnt hs h.2]; rfl
theorem Rw.scal {fs : List Ty} {es : List (List L)} (h : Rw fs es) (hs : fs.all tyScal = true) : scalRecs es := by
 have key : ∀ {fs : List Ty} {e : (List L)}, fs.all tyScal = true -> confR fs e -> scalRec e := by
  intro fs
  induction fs with
  | nil => intro e _ h; cases e with
    | nil => trivial
    | cons _ _ => exact h.elim
  | cons t ts ih =>
    intro e hs h
    cases e with
    | nil => exact h.elim
    | cons l ls =>
      simp only [List.all_cons, Bool.and_eq_true] at hs
      obtain ⟨x, rfl⟩ := confL_scal h.1 hs.1
      exact (ih hs.2 h.2 : scalRec ls)
 have : ∀ {es : List (List L)}, (∀ e ∈ es, confR fs e) -> scalRecs es := by
  intro es
  induction es with
  | nil => intro _; trivial
  | cons e es ih => intro h; exact ⟨key hs (h e (by simp)), ih (fun x hx => h x (by simp [hx]))⟩
 exact this h.2
theorem cntE_at {es : List (List L)} {n : Nat} (hn : n < es.length) : cntEs (es.take (n + 1)) = cntEs (es.take n) + cntR (es.getD n []) := by
 rw [getD_take_succ (d := []) hn, cntEs_append]; simp [cntEs]
theorem cntEs_take_le {es : List (List L)} {n : Nat} : cntEs (es.take n) <= cntEs es := by
 conv => rhs; rw [<- List.take_append_drop n es, cntEs_append]
 omega
theorem upI_cell {sz : Nat} {es : List (List L)} {n o : Nat} {new : (List L)} : upI (.s sz es) [(n, o)] new = es.set n ((es.getD n []).take o ++ new ++ (es.getD n []).drop (o + new.length)) := rfl
theorem psI_one {sz : Nat} {c : List (List L)} {n j : Nat} : psI (.s sz c) [(n, j)] = lfS ((c.getD n []).getD j .g) := by
 unfold psI getS
 simp only [getR]
 cases h : c[n]? with
 | none => simp [List.getD, h, lfS]
 | some rec =>
   simp only [Option.map_some, List.getD, h, Option.getD_some]
   cases h2 : rec[j]? with
   | none => simp [lfS]
   | some l => cases l <;> simp [lfS]
theorem getD_set_same {c : List (List L)} {n : Nat} {r : (List L)} (h : n < c.length) : (c.set n r).getD n [] = r := by simp [List.getD, h]
theorem getR_set {sz : Nat} {c : List (List L)} {n j : Nat} {r : (List L)} (h : n < c.length) : getR (.s sz (c.set n r)) [(n, j)] = some (r, j) := by simp [getR, h]
theorem getR_at {sz : Nat} {c : List (List L)} {n j : Nat} (h : n < c.length) : getR (.s sz c) [(n, j)] = some (c.getD n [], j) := by simp [getR, List.getD, h]
theorem getS_set {sz : Nat} {c : List (List L)} {n j : Nat} {r : (List L)} (h : n < c.length) : getS (.s sz (c.set n r)) [(n, j)] = match r[j]? with
 | some (.s sz es) => some (sz, es)
 | _ => none := by unfold getS; rw [getR_set h]; rfl
theorem getS_at {sz : Nat} {c : List (List L)} {n j : Nat} (h : n < c.length) : getS (.s sz c) [(n, j)] = match (c.getD n [])[j]? with
 | some (.s sz es) => some (sz, es)
 | _ => none := by unfold getS; rw [getR_at h]; rfl
theorem kN_pre {a b : List (List (List L))} {k : Int} (hk : 0 <= k) : kN0 a k <= kN0 (a ++ b) k /\ 0 <= kN0 a k := by
 rw [<- kN_app, kN_k (rs := b), kN_k (rs := a)]
 have := kN_0 (rs := a); have := kN_0 (rs := b); omega
theorem fit_msL {l : L} {k : Int} {z : L} (h : fitL z l = true) : fitL z (msL l k).1 = true := by
 cases l with
 | v x => cases x <;> cases z <;> simp_all [msL, fitL] <;> (rename_i y; cases y <;> simp_all [fitL])
 | s sz es => cases z <;> simp_all [msL, fitL]
 | g => exact h
 | m _ _ => exact h
theorem fit_msR : ∀ {z e : (List L)} {k : Int}, fitZ z e = true -> fitZ z (msR e k).1 = true
 | [], [], _, _ => rfl
 | [], _ :: _, _, h => by simp [fitZ] at h
 | _ :: _, [], _, h => by simp [fitZ] at h
 | z :: zs, l :: ls, k, h => by
   simp only [fitZ, Bool.and_eq_true, msR] at h ⊢
   exact ⟨fit_msL h.1, fit_msR h.2⟩
theorem fit_msEs : ∀ {z : (List L)} {es : List (List L)} {k : Int}, Wf z es -> Wf z (msEs es k).1
 | z, [], _, _ => fun e he => by cases he
 | z, e :: es, k, h => by
   intro x hx
   simp only [msEs, List.mem_cons] at hx
   rcases hx with rfl | hx
   ·exact fit_msR (h e (by simp))
   ·exact fit_msEs (fun y hy => h y (by simp [hy])) x hx
theorem conf_mk_wf {fs : List Ty} {es : List (List L)} {k : Int} (h : Rw fs es) : Wf (zR fs) (mkN0 es k) := fit_msEs h.wf
end Go.V
/-
 Marks are few; what the laws ask of rows.
-/
namespace Go.V
mutual
def twL : Ty -> Nat
 | .sl fs => twR fs
 | _ => 1
def twR : List Ty -> Nat
 | [] => 0
 | t :: ts => twL t + twR ts
end
mutual
theorem marksL : ∀ (t : Ty) (l : L), confL t l -> (msL l 0).2 <= (twL t * (cntL l + 1) : Nat)
 | .int k, .v x, h => by cases x <;> simp [msL, cntL, twL]
 | .int k, .s _ _, h => by simp [confL] at h
 | .int k, .g, h => by simp [confL] at h
 | .bool, .v x, h => by cases x <;> simp [msL, cntL, twL]
 | .bool, .s _ _, h => by simp [confL] at h
 | .bool, .g, h => by simp [confL] at h
 | .str, .v x, h => by cases x <;> simp [msL, cntL, twL]
 | .str, .s _ _, h => by simp [confL] at h
 | .str, .g, h => by simp [confL] at h
 | .sl fs, .v x, h => by simp [confL] at h
 | .sl fs, .g, h => by simp [confL] at h
 | .sl fs, .s sz es, h => by
   have h1 := marksEs fs es (by simp only [confL] at h; exact h.2.2)
   simp only [msL, cntL, twL]
   have : twR fs * (es.length + cntEs es) <= twR fs * (es.length + cntEs es + 1) := Nat.mul_le_mul_left _ (by omega)
   omega
theorem marksR : ∀ (ts : List Ty) (ls : (List L)), confR ts ls -> (msR ls 0).2 <= (twR ts * (cntR ls + 1) : Nat)
 | [], [], _ => by simp only [msR]; exact Int.natCast_nonneg _
 | [], _ :: _, h => h.elim
 | _ :: _, [], h => h.elim
 | t :: ts, l :: ls, h => by
   have h1 := marksL t l h.1
   have h2 := marksR ts ls h.2
   simp only [msR]
   rw [msR_k]
   have e1 : twL t * (cntL l + 1) <= twL t * (cntR (l :: ls) + 1) := Nat.mul_le_mul_left _ (by simp [cntR])
   have e2 : twR ts * (cntR ls + 1) <= twR ts * (cntR (l :: ls) + 1) := Nat.mul_le_mul_left _ (by simp [cntR])
   have e3 : twR (t :: ts) * (cntR (l :: ls) + 1) = twL t * (cntR (l :: ls) + 1) + twR ts * (cntR (l :: ls) + 1) := by simp only [twR]; rw [Nat.add_mul]
   omega
theorem marksEs : ∀ (ts : List Ty) (es : List (List L)), (∀ e ∈ es, confR ts e) -> (msEs es 0).2 <= (twR ts * (es.length + cntEs es) : Nat)
 | ts, [], _ => by simp only [msEs]; exact Int.natCast_nonneg _
 | ts, e :: es, h => by
   have h1 := marksR ts e (h e (by simp))
   have h2 := marksEs ts es (fun x hx => h x (by simp [hx]))
   simp only [msEs]
   rw [msEs_k]
   have e3 : twR ts * ((e :: es).length + cntEs (e :: es)) = twR ts * (cntR e + 1) + twR ts * (es.length + cntEs es) := by
    rw [<- Nat.mul_add]; congr 1; simp [cntEs]; omega
   omega
end
theorem Rw.marks {fs : List Ty} {es : List (List L)} (h : Rw fs es) (hw : twR fs <= 64) : (msEs es 0).2 <= (64 * cntE es : Nat) := by
 have := marksEs fs es h.2
 have h2 : twR fs * (es.length + cntEs es) <= 64 * (es.length + cntEs es) := Nat.mul_le_mul_right _ hw
 unfold cntE
 omega
theorem kN_bound : ∀ {rs : List (List (List L))} {k : Int}, (∀ r ∈ rs, (msEs r 0).2 <= (64 * cntE r : Nat)) -> kN0 rs k <= k + (64 * cntRs rs : Nat)
 | [], k, _ => by simp [kN0, cntRs]
 | r :: rs, k, h => by
   simp only [kN0, cntRs]
   have h1 := h r (by simp)
   have h2 := kN_bound (rs := rs) (k := (msEs r k).2) (fun x hx => h x (by simp [hx]))
   rw [msEs_k] at h2
   rw [msEs_k r k]
   have : 64 * (cntE r + cntRs rs) = 64 * cntE r + 64 * cntRs rs := Nat.mul_add _ _ _
   omega
theorem kN_small {rs : List (List (List L))} {k : Int} (h : ∀ r ∈ rs, (msEs r 0).2 <= (64 * cntE r : Nat)) (hk : 0 <= k /\ k <= 1000) (hc : cntRs rs <= 1099511627776) : kN0 rs k <= 1152921504606846976 := by
 have := kN_bound (k := k) h
 have : 64 * cntRs rs <= 64 * 1099511627776 := Nat.mul_le_mul_left _ hc
 omega
theorem kN_pos {rs : List (List (List L))} {k : Int} (hk : 0 <= k) : ¬ kN0 rs k < 0 := by
 rw [kN_k]; have := kN_0 (rs := rs); omega
theorem szN_no {rs : List (List (List L))} (h : cntRs rs <= 1048576) : ¬ szN0 rs 1048576 < 0 := by rw [szN_neg]; omega
theorem subI_mk {es : List (List L)} {k : Int} : subI (mkN0 es k) 0 es.length = mkN0 es k := by
 rw [<- mkN_length (es := es) (k := k), sub_all]
end Go.V