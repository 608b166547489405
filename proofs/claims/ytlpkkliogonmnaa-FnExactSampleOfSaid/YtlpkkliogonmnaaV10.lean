/-
  The value-level condition generator, part 10: box, alloc, make.
-/
import Derived.Test.YtlpkkliogonmnaaV9
set_option linter.all false

namespace Go.V

theorem same_alloc (w : World) (ob : Obj) : Same (fun _ => True) w (w.alloc ob) := ⟨rfl, rfl, rfl, by simp, fun b hb _ => heap_alloc_old w ob hb⟩

theorem Unf.keep {w w' : World} {b : Nat} (h : Unf w b) (hk : w'.heap[b]? = w.heap[b]?) : Unf w' b := by obtain ⟨cur, ty, e⟩ := h; exact ⟨cur, ty, by rw [hk]; exact e⟩
theorem Unf.lt {w : World} {b : Nat} (h : Unf w b) : b < w.heap.size := by obtain ⟨cur, ty, e⟩ := h; exact (Array.getElem?_eq_some_iff.1 e).1

section
variable {P : Program} {o : Oper} {cx : Cx} {G : Gh} {g : Gm} {a : Act} {w : World}

/-- A new variable in memory, filled with what was taken. -/
theorem SimG.newBox (hS : SimG cx G g a w) {lts : List (H × Option Nat)} {srcs : List (Nat × Nat)} {vs : List Value} {Ss : List (List Nat)} (hp : Pks g G w lts srcs vs Ss) (hdist : distinctP srcs = true)
    {g1 : Gm} (hS1 : SimG cx G g1 a w) (hgone : ∀ r j, (r, j) ∈ srcs → ∃ h, g1 (.leaf r j) = some (.h h) ∧ h.c = .gone) {d : Nat} (hd : g1 (.meta_ d) = none) (ty : TypeId) :
    ∃ G', SimG cx G' ((W.root d true (hvs lts)).app g1) a (w.alloc (.cells vs.toArray ty)) ∧ G'.loc d = some (w.heap.size, 0) := by
  have hlen := hp.length
  obtain ⟨G', h1, h2, h3, h4⟩ := hS1.newRoot hd true (hvs lts) (w.alloc (.cells vs.toArray ty)) (same_alloc w _) (fun j => vs.getD j undef) (fun j => Ss.getD j [])
    (by
      intro j h hj
      simp only [hvs, List.getElem?_map, Option.map_eq_some_iff] at hj
      obtain ⟨⟨c, og⟩, e1, rfl⟩ := hj
      obtain ⟨src, v, S, k1, k2, k3, k4⟩ := hp.nth j c og e1
      have f := k1.facts hS
      have hv : vs.getD j undef = v := by simp [List.getD, k2]
      have hSs : Ss.getD j [] = S := by simp [List.getD, k3]
      rw [hv, hSs]
      have hfree : ∀ b ∈ S, Unf (w.alloc (.cells vs.toArray ty)) b ∧ Free g1 G w b := by
        intro b hb
        obtain ⟨u, r, j', m1, m2⟩ := f.2 b hb
        refine ⟨u.keep (heap_alloc_old w _ u.lt), .inr ⟨r, j', m2, fun h l e1 e2 => ?_⟩⟩
        obtain ⟨h', q1, q2⟩ := hgone r j' (k4 _ m1)
        rw [gl_some, q1] at e1; cases e1
        rw [q2] at e2; cases e2
      cases k1 with
      | own t =>
        have tf := t.facts hS
        simp only [New]
        exact ⟨RdL.keep _ _ _ tf.1 (fun b hb => heap_alloc_old w _ (RdL.lt _ _ _ tf.1 b hb)), f.1, hfree⟩
      | ro l v S' h h2 =>
        simp only [New]
        exact ⟨trivial, S', RdL.keep _ _ _ h (fun b hb => heap_alloc_old w _ (RdL.lt _ _ _ h b hb)), h2⟩)
    (by
      intro j h hj
      simp only [hvs, List.getElem?_map, Option.map_eq_some_iff] at hj
      obtain ⟨⟨c, og⟩, e1, rfl⟩ := hj
      obtain ⟨src, v, S, k1, k2, k3, k4⟩ := hp.nth j c og e1
      have hv : vs.getD j undef = v := by simp [List.getD, k2]
      rw [hv]; exact k1.org hS)
    (by
      intro i j _ _ hij b hb
      exact hp.disj hS hdist i j hij b hb)
    w.heap.size 0 (by
      intro _
      refine ⟨Nat.le_refl _, ⟨vs.toArray, ty, heap_alloc_new w _, by simp [hvs, hlen.1], fun j hj => ?_⟩, fun j hj hb => ?_⟩
      · have hj' : j < vs.length := by simpa [hvs, hlen.1] using hj
        simp [List.getD, hj']
      · obtain ⟨r, j', m1, m2⟩ := hp.tok hS j _ hb
        have := hS.lt _ _ m2
        omega)
  exact ⟨G', h1, h3 rfl⟩

theorem leavesOf_sound (r : R) (as : List A) (v : Value) (hl : leavesOf r = some as) (h : ROk (gl g) G w r v) : ∃ vs, AOks (gl g) G w as vs ∧ (v = .agg vs.toArray ∨ vs = [v]) := by
  cases r with
  | one x => simp only [leavesOf, Option.some.injEq] at hl; subst hl; simp only [ROk] at h; exact ⟨[v], by simp [AOks, h], .inr rfl⟩
  | agg xs => simp only [leavesOf, Option.some.injEq] at hl; subst hl; simp only [ROk] at h; obtain ⟨vs, e, h⟩ := h; exact ⟨vs, h, .inl e⟩
  | tup rs => simp [leavesOf] at hl

theorem cells_of {v : Value} {vs : List Value} (h : v = .agg vs.toArray ∨ vs = [v]) (h1 : ∀ u ∈ vs, u.oneCell' = true) : v.cells = vs.toArray := by
  rcases h with rfl | rfl
  · rfl
  · have := h1 v (by simp)
    cases v <;> first | rfl | (simp [Value.oneCell'] at this)

theorem Pks.one (hS : SimG cx G g a w) {ls : List (H × Option Nat)} {srcs : List (Nat × Nat)} {vs : List Value} {Ss : List (List Nat)} (h : Pks g G w ls srcs vs Ss) : ∀ u ∈ vs, u.oneCell' = true := by
  induction h with
  | nil => intro u hu; simp at hu
  | cons hk hs ih =>
    intro u hu
    rcases List.mem_cons.1 hu with rfl | hu
    · exact hk.one hS
    · exact ih u hu

variable {ls : List Loc} {ws : List W} {K : Act → World → Prop} {Q : Exit → Act → World → Prop}

theorem fresh_sound {α : Type} {n : Nat} {d : Option Tmp} {k : Nat → Rd α} {out : α} (h : (fresh n d k).Runs g ls out) : ∃ d' ls', d = some d' ∧ d' < n ∧ g (.meta_ d') = none ∧ (k d').Runs g ls' out := by
  unfold fresh at h
  cases d with
  | none => simp [Rd.Runs] at h
  | some d =>
    simp only at h
    split at h
    · rename_i hlt
      simp only [Rd.Runs] at h
      obtain ⟨ls', _, h⟩ := h
      cases hm : g (.meta_ d) with
      | none => simp only [hm] at h; exact ⟨d, ls', rfl, hlt, hm, h⟩
      | some y => simp [hm, Rd.Runs] at h
    · simp [Rd.Runs] at h

theorem vBox_sound {t : TypeId} {x : Operand} (ho : o.op = .box t x) (hS : SimG cx G g a w) (h : (vBox P cx.n o.dst t x).Runs g ls (.ws ws))
    (hk : ∀ a' w', Sim cx (apps g ws) a' w' → K a' w') : o.wp P a w K Q := by
  unfold vBox at h
  cases hti : tyI P t with
  | none => simp [hti, Rd.Runs] at h
  | some ti =>
    simp only [hti] at h
    obtain ⟨r, ls1, hr, h⟩ := ev_sound hS h
    cases hl : leavesOf r with
    | none => simp [hl, Rd.Runs] at h
    | some as =>
      simp only [hl] at h
      obtain ⟨vs, hvs', hv⟩ := leavesOf_sound r as _ hl hr
      obtain ⟨d, ls2, hd, hlt, hm, h⟩ := fresh_sound h
      obtain ⟨lts, srcs, Ss, ls3, hp, _, h⟩ := putAll_sound hS _ _ _ hvs' _ _ _ h
      split at h
      · rename_i hdist
        obtain ⟨w1, ls4, hS1, h, hg1, hg2⟩ := gones_sound srcs g hS (fun _ _ _ => rfl) hdist _ _ _ h
        simp only [Rd.Runs, Out.ws.injEq] at h
        obtain ⟨_, rfl⟩ := h
        have hm1 : apps g w1 (.meta_ d) = none := by rw [hg2 _ (by intro r j e; cases e)]; exact hm
        obtain ⟨G', k1, k2⟩ := hS.newBox hp hdist hS1 hg1 hm1 t
        have hc := cells_of hv (hp.one hS)
        refine wp_value (v := .pointer (some ⟨w.heap.size, 0, none⟩)) (w' := w.alloc (.cells vs.toArray t)) ?_ (hk _ _ ?_)
        · unfold execOp
          simp [ho, Instr.box, newVar, newRow, hc]
        · rw [apps_append]
          simp only [apps]
          rw [hd]
          exact ⟨G', k1.put hlt (by simp only [ROk]; exact ⟨w.heap.size, 0, k2, rfl⟩)⟩
      · simp [Rd.Runs] at h

theorem zero_pks : ∀ {zr : Rec} {vs : List Value}, RdRec w zr vs [] → Pks g G w (zr.map fun l => (H.own l, none)) [] vs (zr.map fun _ => [])
  | [], vs, h => by simp only [RdRec] at h; obtain ⟨rfl, _⟩ := h; exact .nil
  | l :: ls, vs, h => by
    simp only [RdRec] at h
    obtain ⟨v, vs', S1, S2, rfl, h1, h2, e⟩ := h
    have := List.append_eq_nil_iff.1 e.symm
    obtain ⟨rfl, rfl⟩ := this
    exact Pks.cons (src := []) (.own (.plain _ _ h1)) (zero_pks h2)

theorem vAlloc_sound {t : TypeId} (ho : o.op = .alloc t) (hS : SimG cx G g a w) (h : (vAlloc P cx.n o.dst t).Runs g ls (.ws ws))
    (hk : ∀ a' w', Sim cx (apps g ws) a' w' → K a' w') : o.wp P a w K Q := by
  unfold vAlloc at h
  cases hti : tyI P t with
  | none => simp [hti, Rd.Runs] at h
  | some ti =>
    simp only [hti] at h
    obtain ⟨d, ls2, hd, hlt, hm, h⟩ := fresh_sound h
    simp only [Rd.Runs, Out.ws.injEq] at h
    obtain ⟨_, rfl⟩ := h
    obtain ⟨i, z, e1, e2, e3, e4, e5⟩ := tyI_spec hti
    have hz := (zipZ_spec e4).1 w
    have hp := zero_pks (g := g) (G := G) hz
    obtain ⟨G', k1, k2⟩ := hS.newBox hp rfl hS (fun r j hm => by simp at hm) hm t
    refine wp_value (v := .pointer (some ⟨w.heap.size, 0, none⟩)) (w' := w.alloc (.cells z.cells.toList.toArray t)) ?_ (hk _ _ ?_)
    · unfold execOp
      simp [ho, Instr.alloc, zeroValue, typeInfo, e1, e2, newVar, newRow]
    · simp only [apps]
      rw [hd]
      have : (ti.zero.map fun l => (⟨0, 0, none, .own l⟩ : Hv)) = hvs (ti.zero.map fun l => (H.own l, none)) := by simp [hvs, Function.comp_def]
      rw [this]
      exact ⟨G', k1.put hlt (by simp only [ROk]; exact ⟨w.heap.size, 0, k2, rfl⟩)⟩

/-- A new row of the call's own. -/
theorem SimG.newRow (hS : SimG cx G g a w) {d : Nat} (hlt : d < cx.n) (hd : g (.meta_ d) = none) (w' : World) (hw : Same (fun _ => True) w w') (n : Nat) (cur : Array Value) (ty : TypeId)
    (hn : w.heap.size ≤ n) (hnew : w'.heap[n]? = some (.cells cur ty (0, 0))) (sz : Nat) (es : List Rec) (len cap : Nat) (hlen : len = es.length) (hlc : len ≤ cap) (hcm : cap ≤ maxLen) (hcs : cap * sz ≤ cur.size) (S : List Nat)
    (hr : RdEs w' sz es (cur.toList.take (len * sz)) S) (hnd : S.Nodup) (hS' : ∀ b ∈ S, Unf w' b ∧ Free g G w b ∧ b ≠ n) :
    Sim cx (apps g (ownRow d sz es)) (a.put (some d) (.slice (some ⟨n, 0, none⟩) len cap)) w' := by
  have hrd : RdL w' (.s sz es) (.slice (some ⟨n, 0, none⟩) len cap) (n :: S) := by
    simp only [RdL]
    exact ⟨_, len, cap, rfl, hlen, hlc, hcm, .inr ⟨n, 0, cur, ty, (0, 0), S, rfl, hnew, by omega, by simpa using hr, rfl⟩⟩
  obtain ⟨G', k1, k2, _, _⟩ := hS.newRoot hd false [⟨0, 0, none, .own (.s sz es)⟩] w' hw (fun _ => .slice (some ⟨n, 0, none⟩) len cap) (fun _ => n :: S)
    (by
      intro j h hj
      have hj0 : j = 0 := by
        cases j with
        | zero => rfl
        | succ j => simp at hj
      subst hj0
      simp at hj; subst hj
      simp only [New]
      refine ⟨hrd, List.nodup_cons.2 ⟨fun hb => (hS' n hb).2.2 rfl, hnd⟩, fun b hb => ?_⟩
      rcases List.mem_cons.1 hb with rfl | hb
      · exact ⟨⟨cur, ty, hnew⟩, .inl hn⟩
      · exact ⟨(hS' b hb).1, (hS' b hb).2.1⟩)
    (fun j h hj => by cases j with
      | zero => simp at hj; subst hj; exact OrgOk.none
      | succ j => simp at hj)
    (by intro i j hi hj hij; simp at hi hj; omega) 0 0 (by simp)
  simp only [ownRow, apps]
  refine ⟨G', k1.put hlt ?_⟩
  simp only [ROk]
  have hg : gl ((W.root d false [⟨0, 0, none, .own (.s sz es)⟩]).app g) d 0 = some ⟨0, 0, none, .own (.s sz es)⟩ := by simp [gl, W.app]
  refine ⟨_, hg, Nat.le_refl _, fun _ sz' es' e => ?_⟩
  cases e
  rw [k2]
  exact ⟨by omega, ViewOf.full hrd⟩

theorem flatten_replicate_map {α : Type} (z : List α) (f : Nat → α) (hf : ∀ j, f (j + z.length) = f j) (h0 : (List.range z.length).map f = z) : ∀ n, (List.range (n * z.length)).map f = (List.replicate n z).flatten
  | 0 => by simp
  | n + 1 => by
    have ih := flatten_replicate_map z f hf h0 n
    rw [Nat.add_mul, Nat.one_mul, List.range_add, List.map_append, ih, List.replicate_succ', List.flatten_append]
    congr 1
    simp only [List.map_map, List.flatten_cons, List.flatten_nil, List.append_nil]
    rw [← h0]
    simp only [List.length_map, List.length_range]
    have : ∀ m j, f (m * z.length + j) = f j := by
      intro m
      induction m with
      | zero => intro j; simp
      | succ m ihm => intro j; rw [Nat.add_mul, Nat.one_mul, Nat.add_right_comm, hf]; exact ihm j
    apply List.map_congr_left
    intro j _
    simp only [Function.comp]
    have hl : ((List.range z.length).map f).length = z.length := by simp
    simp only [this]

theorem zeros_eq (z : Array Value) (n : Nat) : ((Array.range (n * z.size)).map (z[· % z.size]!)).toList = (List.replicate n z.toList).flatten := by
  have h := flatten_replicate_map z.toList (fun k => z[k % z.size]!) (fun j => by simp) (by
    apply List.ext_getElem?
    intro k
    simp only [List.getElem?_map, Array.length_toList]
    by_cases hk : k < z.size
    · rw [List.getElem?_range hk]
      simp [Nat.mod_eq_of_lt hk, hk]
    · rw [List.getElem?_eq_none (by simpa using hk), List.getElem?_eq_none (by simpa using hk)]; rfl) n
  simpa using h

theorem RdEs.replicate {sz : Nat} {zr : Rec} {zl : List Value} (h : RdRec w zr zl []) (hl : zl.length = sz) : ∀ n, RdEs w sz (List.replicate n zr) (List.replicate n zl).flatten []
  | 0 => by simp [RdEs]
  | n + 1 => by
    simp only [List.replicate_succ, List.flatten_cons, RdEs]
    exact ⟨zl, _, [], [], rfl, hl, h, RdEs.replicate h hl n, rfl⟩

theorem vMake_sound {t : TypeId} {l c : Operand} (ho : o.op = .makeSlice t l c) (hS : SimG cx G g a w) (h : (vMake P cx.n o.dst t l c).Runs g ls (.ws ws))
    (hk : ∀ a' w', Sim cx (apps g ws) a' w' → K a' w') : o.wp P a w K Q := by
  unfold vMake at h
  split at h
  · simp [Rd.Runs] at h
  · rename_i e ti bytes hel
    obtain ⟨kl, n, ls1, he1, h⟩ := evInt_sound hS h
    obtain ⟨kc, m, ls2, he2, h⟩ := evInt_sound hS h
    split at h
    · rename_i hkk
      simp only [Bool.and_eq_true, beq_iff_eq] at hkk
      obtain ⟨hk1, hk2⟩ := hkk
      rw [hk1] at he1
      rw [hk2] at he2
      simp only [Rd.Runs] at h
      obtain ⟨⟨h0, h1, h2, h3⟩, h⟩ := h
      obtain ⟨d, ls3, hd, hlt, hm, h⟩ := fresh_sound h
      simp only [Rd.Runs, Out.ws.injEq] at h
      obtain ⟨_, rfl⟩ := h
      obtain ⟨e1, e2, inf, e3, e4, e5, e6⟩ := elI_spec hel
      obtain ⟨i, z, f1, f2, f3, f4, f5⟩ := tyI_spec e2
      rw [e3] at f1; cases f1
      subst e4
      obtain ⟨z1, z2, z3⟩ := zipZ_spec f4
      have hzs : z.cells.size = ti.zero.length := by simpa using z2
      have run := run_make (P := P) w t e inf z e1 e3 f2 .i64 .i64 n m h0 h1 (by rw [Int.mul_comm]; omega) (by omega)
      refine wp_value (v := _) (w' := _) (by unfold execOp; simp only [ho, he1, he2, Sem.run_bind, run, Result.andThen_ok, Sem.run_pure]; rfl) (hk _ _ ?_)
      have hmade : madeCells z.cells (m.toNat * inf.size) = (Array.range (m.toNat * z.cells.size)).map (z.cells[· % z.cells.size]!) := by
        rw [e6, ← hzs]; rfl
      have hmz : (madeCells z.cells (m.toNat * inf.size)).toList = (List.replicate m.toNat z.cells.toList).flatten := by
        rw [hmade]; exact zeros_eq z.cells m.toNat
      rw [hd]
      refine hS.newRow hlt hm _ (same_alloc w _) w.heap.size _ e (Nat.le_refl _) (heap_alloc_new w _) _ _ n.toNat m.toNat (by simp) (by omega) (by unfold maxLen; omega) ?_ [] ?_ List.nodup_nil (fun b hb => by cases hb)
      · rw [size_madeCells, e6]; exact Nat.le_refl _
      · rw [hmz]
        have hz' := z1 (w.alloc (.cells (madeCells z.cells (m.toNat * inf.size)) e))
        have hall := RdEs.replicate hz' (by simpa using hzs) m.toNat
        have := hall.sub 0 n.toNat
        obtain ⟨S1, q1, q2⟩ := this
        have hS1 : S1 = [] := by
          cases S1 with
          | nil => rfl
          | cons b bs => exact absurd (q2 b (by simp)) (by simp)
        subst hS1
        simp only [List.drop_zero, Nat.zero_mul, List.take_replicate, List.length_replicate] at q1
        rw [Nat.min_eq_left (by omega)] at q1
        exact q1
    · simp [Rd.Runs] at h

end

end Go.V
