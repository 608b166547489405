/-
  A condition generator for functions on trees of data, part 5 of 5: values in memory, contracts, soundness.
-/import Derived.Test.YticfhgfgobafbaaGreatVD
set_option linter.all false
/-
 Rows of well-formed records; cells of rows that are written.
-/
namespace Go.V
abbrev Rw (fs : List Ty) (es : List (List L)) : Prop := es.length <= maxLen /\ ∀ e ∈ es, confR fs e
abbrev tI : Ty := .int .i64
abbrev tB : Ty := .bool
mutual
def zL : Ty -> L
 | .int k => .v (.int k 0)
 | .bool => .v (.bool false)
 | .str => .v (.string .empty)
 | .sl fs => .s fs.length []
def zR : List Ty -> (List L)
 | [] => []
 | t :: ts => zL t :: zR ts
end
theorem conf_fit : ∀ {fs : List Ty} {e : (List L)}, confR fs e -> fitZ (zR fs) e = true
 | [], [], _ => rfl
 | [], _ :: _, h => h.elim
 | _ :: _, [], h => h.elim
 | t :: ts, l :: ls, h => by
   obtain ⟨h1, h2⟩ := h
   simp only [zR, fitZ, Bool.and_eq_true]
   refine ⟨?_, conf_fit h2⟩
   cases t with
   | int k => cases l with
     | v x => cases x with
       | int k' n => simp only [confL] at h1; simp [zL, fitL, h1.1]
       | _ => simp [confL] at h1
     | _ => simp [confL] at h1
   | bool => cases l with
     | v x => cases x with
       | bool b => rfl
       | _ => simp [confL] at h1
     | _ => simp [confL] at h1
   | str => cases l with
     | v x => cases x with
       | string b => rfl
       | _ => simp [confL] at h1
     | _ => simp [confL] at h1
   | sl fs => cases l with
     | s sz es => simp only [confL] at h1; simp [zL, fitL, h1.1]
     | _ => simp [confL] at h1
theorem Rw.wf {fs : List Ty} {es : List (List L)} (h : Rw fs es) : Wf (zR fs) es := fun e he => conf_fit (h.2 e he)
theorem Rw.at {fs : List Ty} {es : List (List L)} (h : Rw fs es) {n : Nat} (hn : n < es.length) : confR fs (es.getD n []) := by
 refine h.2 _ ?_
 rw [List.getD_eq_getElem?_getD, List.getElem?_eq_getElem hn]; exact List.getElem_mem _
theorem Rw.eta {fs : List Ty} {es : List (List L)} (h : Rw fs es) {i : Int} (h0 : 0 <= i) (h1 : i < es.length) : es.getD i.toNat [] = etaE stdO es i 0 (zR fs) := (etaE_whole h.wf h0 h1).symm
theorem confR_sub : ∀ {fs : List Ty} {e : (List L)} {j : Nat} {gs : List Ty}, confR fs e -> fs[j]? = some (.sl gs) -> ∃ es', e[j]? = some (.s gs.length es') /\ Rw gs es'
 | [], _, j, gs, _, h => by simp at h
 | _ :: _, [], j, gs, h, _ => h.elim
 | t :: ts, l :: ls, 0, gs, h, e => by
   simp at e; subst e
   have h1 := h.1
   cases l with
   | s sz es => simp only [confL] at h1; exact ⟨es, by simp [h1.1], h1.2⟩
   | _ => simp [confL] at h1
 | t :: ts, l :: ls, j + 1, gs, h, e => by
   simp at e
   obtain ⟨es', h1, h2⟩ := confR_sub h.2 e
   exact ⟨es', by simpa using h1, h2⟩
theorem Rw.sub {fs : List Ty} {es : List (List L)} (h : Rw fs es) {i : Int} (hn : i.toNat < es.length) {j : Nat} {gs : List Ty} (hj : fs[j]? = some (.sl gs)) : Rw gs (gsI es i j) := by
 obtain ⟨es', h1, h2⟩ := confR_sub (h.at hn) hj
 unfold gsI
 rw [List.getD_eq_getElem?_getD (l := es.getD i.toNat []), h1]
 exact h2
theorem Rw.nil {fs : List Ty} : Rw fs [] := ⟨Nat.zero_le _, by simp⟩
theorem Rw.take {fs : List Ty} {es : List (List L)} (h : Rw fs es) (n : Nat) : Rw fs (es.take n) := ⟨by rw [List.length_take]; exact Nat.le_trans (Nat.min_le_right _ _) h.1, fun e he => h.2 e (List.mem_of_mem_take he)⟩
theorem Rw.drop {fs : List Ty} {es : List (List L)} (h : Rw fs es) (n : Nat) : Rw fs (es.drop n) := ⟨by rw [List.length_drop]; exact Nat.le_trans (Nat.sub_le _ _) h.1, fun e he => h.2 e (List.mem_of_mem_drop he)⟩
theorem Rw.append {fs : List Ty} {a b : List (List L)} (ha : Rw fs a) (hb : Rw fs b) (hl : a.length + b.length <= maxLen) : Rw fs (a ++ b) := ⟨by simpa using hl, fun e he => by rcases List.mem_append.1 he with q | q; exact ha.2 e q; exact hb.2 e q⟩
theorem Rw.one {fs : List Ty} {e : (List L)} (h : confR fs e) : Rw fs [e] := ⟨by simp [maxLen], by simpa using h⟩
theorem Rw.set {fs : List Ty} {es : List (List L)} (h : Rw fs es) {e : (List L)} (he : confR fs e) (n : Nat) : Rw fs (es.set n e) := ⟨by simpa using h.1, fun x hx => by rcases List.mem_or_eq_of_mem_set hx with q | q; exact h.2 x q; rw [q]; exact he⟩
theorem Rw.replicate {fs : List Ty} {e : (List L)} (h : confR fs e) {n : Nat} (hn : n <= maxLen) : Rw fs (List.replicate n e) := ⟨by simpa using hn, fun x hx => by rw [List.eq_of_mem_replicate hx]; exact h⟩
def tyScal : Ty -> Bool
 | .sl _ => false
 | _ => true
theorem confL_scal {t : Ty} {l : L} (h : confL t l) (hs : tyScal t = true) : ∃ x, l = .v x := by
 cases t with
 | sl fs => cases hs
 | int k => cases l with
   | v x => exact ⟨x, rfl⟩
   | _ => simp [confL] at h
 | bool => cases l with
   | v x => exact ⟨x, rfl⟩
   | _ => simp [confL] at h
 | str => cases l with
   | v x => exact ⟨x, rfl⟩
   | _ => simp [confL] at h
theorem flat_cntR : ∀ {fs : List Ty} {e : (List L)}, fs.all tyScal = true -> confR fs e -> cntR e = 0
 | [], [], _, _ => rfl
 | [], _ :: _, _, h => h.elim
 | _ :: _, [], _, h => h.elim
 | t :: ts, l :: ls, hs, h => by
   simp only [List.all_cons, Bool.and_eq_true] at hs
   obtain ⟨x, rfl⟩ := confL_scal h.1 hs.1
   simp only [cntR, cntL]; rw [flat_cntR hs.2 h.2]
theorem flat_cnt {fs : List Ty} (hs : fs.all tyScal = true) : ∀ {es : List (List L)}, (∀ e ∈ es, confR fs e) -> cntEs es = 0
 | [], _ => rfl
 | e :: es, h => by simp only [cntEs]; rw [flat_cntR hs (h e (by simp)), flat_cnt hs (fun x hx => h x (by simp [hx]))]
theorem Rw.cnt {fs : List Ty} {es : List (List L)} (h : Rw fs es) (hs : fs.all tyScal = true) : cntE es = es.length := by unfold cntE; rw [flat_cnt hs h.2]; rfl
theorem Rw.scal {fs : List Ty} {es : List (List L)} (h : Rw fs es) (hs : fs.all tyScal = true) : scalRecs es := by
 have key : ∀ {fs : List Ty} {e : (List L)}, fs.all tyScal = true -> confR fs e -> scalRec e := by
  intro fs
  induction fs with
  | nil => intro e _ h; cases e with
    | nil => trivial
    | cons _ _ => exact h.elim
  | cons t ts ih =>
    intro e hs h
    cases e with
    | nil => exact h.elim
    | cons l ls =>
      simp only [List.all_cons, Bool.and_eq_true] at hs
      obtain ⟨x, rfl⟩ := confL_scal h.1 hs.1
      exact (ih hs.2 h.2 : scalRec ls)
 have : ∀ {es : List (List L)}, (∀ e ∈ es, confR fs e) -> scalRecs es := by
  intro es
  induction es with
  | nil => intro _; trivial
  | cons e es ih => intro h; exact ⟨key hs (h e (by simp)), ih (fun x hx => h x (by simp [hx]))⟩
 exact this h.2
theorem cntE_at {es : List (List L)} {n : Nat} (hn : n < es.length) : cntEs (es.take (n + 1)) = cntEs (es.take n) + cntR (es.getD n []) := by
 rw [getD_take_succ (d := []) hn, cntEs_append]; simp [cntEs]
theorem cntEs_take_le {es : List (List L)} {n : Nat} : cntEs (es.take n) <= cntEs es := by
 conv => rhs; rw [<- List.take_append_drop n es, cntEs_append]
 omega
end Go.V
/-
 Marks are few; what the laws ask of rows.
-/
namespace Go.V
theorem szN_no {rs : List (List (List L))} (h : cntRs rs <= 1048576) : ¬ szN0 rs 1048576 < 0 := by rw [szN_neg]; omega
theorem subI_mk {es : List (List L)} {k : Int} : subI (mkN0 es k) 0 es.length = mkN0 es k := by
 rw [<- mkN_length (es := es) (k := k), sa]
end Go.V