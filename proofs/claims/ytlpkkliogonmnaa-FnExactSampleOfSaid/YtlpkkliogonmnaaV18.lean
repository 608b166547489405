/-
  The value-level condition generator, part 18: a function's contract out of its condition.
-/
import Derived.Test.YtlpkkliogonmnaaV17
set_option linter.all false

namespace Go.V

section
variable {P : Program} {cx : Cx} {G : Gh} {g : Gm} {a : Act} {w : World}

def resRun (tmps : Array Value) : ResultVar → Sem Value
  | .tmp t => pure (tmps.getD t undef)
  | .cell x t => do loadVar t (← asAddr (tmps.getD x undef))

theorem dv_of_take (hS : SimG cx G g a w) {ti : TI} {as : List A} {vs : List Value} (hx : AOks (gl g) G w as vs) {α : Type} {k : DV → List (Nat × Nat) → Rd α} {ls : List Loc} {out : α}
    (h : (takeAll ti.slots as fun lts srcs => if ti.agg then k (.agg (lts.map (·.1))) srcs else match lts with
      | [(l, _)] => k (.one l) srcs
      | _ => .fail).Runs g ls out) :
    ∃ (d : DV) (srcs : List (Nat × Nat)) (Ss : List (List Nat)) (ls' : List Loc), (if ti.agg then RdDV w d (.agg vs.toArray) Ss.flatten else ∃ v, vs = [v] ∧ RdDV w d v Ss.flatten) ∧ (distinctP srcs = true → Ss.flatten.Nodup) ∧ (∀ b ∈ Ss.flatten, Unf w b ∧ ∃ r j, (r, j) ∈ srcs ∧ G.ow b = some (.leaf r j)) ∧ (k d srcs).Runs g ls' out := by
  obtain ⟨lts, srcs, Ss, ls2, ht, hl, h⟩ := takeAll_sound hS _ _ _ hx _ _ _ h
  have tok : ∀ {ls : List (L × Option Nat)} {srcs : List (Nat × Nat)} {vs : List Value} {Ss : List (List Nat)}, Tks g G w ls srcs vs Ss → ∀ b ∈ Ss.flatten, Unf w b ∧ ∃ r j, (r, j) ∈ srcs ∧ G.ow b = some (.leaf r j) := by
    intro ls srcs vs Ss ht
    induction ht with
    | nil => intro b hb; simp at hb
    | cons h hs ih =>
      intro b hb
      rw [List.flatten_cons, List.mem_append] at hb
      rcases hb with hb | hb
      · obtain ⟨u, r, j, m1, m2⟩ := (h.facts hS).2.2 b hb; exact ⟨u, r, j, by simp [m1], m2⟩
      · obtain ⟨u, r, j, m1, m2⟩ := ih b hb; exact ⟨u, r, j, by simp [m1], m2⟩
  cases ha : ti.agg with
  | true =>
    simp only [ha, if_true] at h
    exact ⟨_, srcs, Ss, ls2, by simp only [if_true]; exact ⟨vs, rfl, ht.rec_ hS⟩, fun hd => (ht.facts hS hd).1, tok ht, h⟩
  | false =>
    simp only [ha, Bool.false_eq_true, if_false] at h
    split at h
    · rename_i l og
      have hr := ht.rec_ hS
      simp only [List.map_cons, List.map_nil, RdRec] at hr
      obtain ⟨v, vs', S1, S2, rfl, h1, ⟨rfl, rfl⟩, e⟩ := hr
      refine ⟨.one l, srcs, Ss, ls2, ?_, fun hd => (ht.facts hS hd).1, tok ht, h⟩
      simp only [Bool.false_eq_true, if_false]
      exact ⟨v, rfl, by simp only [RdDV]; rw [e, List.append_nil]; exact h1⟩
    · simp [Rd.Runs] at h

theorem resD_sound (hS : SimG cx G g a w) {t : TypeId} {rv : ResultVar} {α : Type} {k : DV → List (Nat × Nat) → Rd α} {ls : List Loc} {out : α} (h : (resD P t rv k).Runs g ls out) :
    ∃ d v srcs S ls', (resRun a.tmps rv).run P w = .ok v w ∧ RdDV w d v S ∧ (distinctP srcs = true → S.Nodup) ∧ (∀ b ∈ S, Unf w b ∧ ∃ r j, (r, j) ∈ srcs ∧ G.ow b = some (.leaf r j)) ∧ (k d srcs).Runs g ls' out := by
  unfold resD at h
  cases hti : tyI P t with
  | none => simp [hti, Rd.Runs] at h
  | some ti =>
    simp only [hti] at h
    cases rv with
    | tmp x =>
      simp only at h
      obtain ⟨r, ls1, hr, _, h⟩ := rdR_sound hS h
      cases r with
      | one x0 =>
        simp only [ROk] at hr
        simp only at h
        by_cases hag : ti.agg = true
        · rw [if_pos hag] at h; simp [Rd.Runs] at h
        · rw [if_neg hag] at h
          have hag' : ti.agg = false := by simpa using hag
          obtain ⟨d, srcs, Ss, ls2, h1, h2, h3, h4⟩ := dv_of_take (as := [x0]) (vs := [a.tmps.getD x undef]) hS ⟨_, _, rfl, hr, rfl⟩ h
          simp only [hag', Bool.false_eq_true, if_false] at h1
          obtain ⟨v, e, h1⟩ := h1
          cases e
          exact ⟨d, _, srcs, _, ls2, rfl, h1, h2, h3, h4⟩
      | agg as =>
        simp only [ROk] at hr
        obtain ⟨vs, e, hr⟩ := hr
        simp only at h
        by_cases hag : ti.agg = true
        · rw [if_pos hag] at h
          obtain ⟨d, srcs, Ss, ls2, h1, h2, h3, h4⟩ := dv_of_take hS hr h
          simp only [hag, if_true] at h1
          exact ⟨d, _, srcs, _, ls2, by simp only [resRun, e]; rfl, h1, h2, h3, h4⟩
        · rw [if_neg hag] at h; simp [Rd.Runs] at h
      | tup rs => simp [Rd.Runs] at h
    | cell x t' =>
      simp only at h
      split at h
      · rename_i htt
        simp only [beq_iff_eq] at htt
        subst htt
        obtain ⟨r, ls1, hr, _, h⟩ := rdR_sound hS h
        cases r with
        | agg xs => simp [Rd.Runs] at h
        | tup xs => simp [Rd.Runs] at h
        | one x0 =>
          cases x0 with
          | v y => simp [Rd.Runs] at h
          | nl => simp [Rd.Runs] at h
          | ro sz es => simp [Rd.Runs] at h
          | rp rec j => simp [Rd.Runs] at h
          | pn r j ver iv p => simp [Rd.Runs] at h
          | vw r j ver lo m => simp [Rd.Runs] at h
          | vn r j ver iv p lo m => simp [Rd.Runs] at h
          | un => simp [Rd.Runs] at h
          | pt r0 j =>
          simp only at h
          simp only [ROk, AOk] at hr
          obtain ⟨b, off, e1, e2⟩ := hr
          obtain ⟨as, ls2, h1, h2, h⟩ := loadLeaves_sound hS r0 _ _ _ _ _ h
          obtain ⟨d, srcs, Ss, ls3, k1, k2, k3, k4⟩ := dv_of_take hS h1 h
          have hload : (ti.agg = false → ((List.range ti.zero.length).map fun i => G.val r0 (j + i)).length = 1) → (loadVar t' ⟨b, off + j, none⟩).run P w = .ok (if ti.agg then .agg ((List.range ti.zero.length).map fun i => G.val r0 (j + i)).toArray else ((List.range ti.zero.length).map fun i => G.val r0 (j + i)).getD 0 undef) w := by
            intro hlen
            refine run_loadVar' hti w b (off + j) _ (by simp) hlen ?_
            intro k v hv
            rw [List.getElem?_map] at hv
            cases hr : (List.range ti.zero.length)[k]? with
            | none => simp [hr] at hv
            | some k' =>
              simp only [hr, Option.map_some, Option.some.injEq] at hv
              have hk' : k' = k ∧ k < ti.zero.length := by
                obtain ⟨q1, q2⟩ := List.getElem?_eq_some_iff.1 hr
                simp at q1 q2; exact ⟨q2.symm, q1⟩
              obtain ⟨rfl, hlt⟩ := hk'
              obtain ⟨m, hm⟩ := hS.noloc r0 _ e1
              obtain ⟨b', off', cur, ty, f1, f2, f3, f4, f5⟩ := hS.boxes r0 m hm
              rw [e1] at f1; cases f1
              obtain ⟨hh, hgl⟩ := h2 k' hlt
              obtain ⟨_, m', bx, _, q2, q3, _⟩ := hS.leaf r0 (j + k') _ (gl_some.1 hgl)
              rw [hm] at q2; cases q2
              rw [cell_in_row f3, ← hv]
              rw [show off + j + k' = off + (j + k') from by omega]
              exact f5 _ q3
          have hasA : ∀ v, (loadVar t' ⟨b, off + j, none⟩).run P w = .ok v w → (resRun a.tmps (.cell x t')).run P w = .ok v w := by
            intro v hv
            simp [resRun, e2, asAddr, hv]
          cases ha : ti.agg with
          | true =>
            simp only [ha, if_true] at k1
            have := hload (by simp [ha])
            simp only [ha, if_true] at this
            exact ⟨d, _, srcs, _, ls3, hasA _ this, k1, k2, k3, k4⟩
          | false =>
            simp only [ha, Bool.false_eq_true, if_false] at k1
            obtain ⟨v, e, k1⟩ := k1
            have := hload (fun _ => by rw [e]; rfl)
            simp only [ha, Bool.false_eq_true, if_false, e] at this
            exact ⟨d, v, srcs, _, ls3, hasA _ (by simpa using this), k1, k2, k3, k4⟩
      · simp [Rd.Runs] at h

theorem resDs_sound (hS : SimG cx G g a w) {α : Type} : ∀ (ts : List TypeId) (rvs : List ResultVar) (k : List DV → List (Nat × Nat) → Rd α) (ls : List Loc) (out : α), (resDs P ts rvs k).Runs g ls out →
    ∃ ds vs srcs S ls', (rvs.mapM (resRun a.tmps)).run P w = .ok vs w ∧ RdDVs w ds vs S ∧ (distinctP srcs = true → S.Nodup) ∧ (∀ b ∈ S, Unf w b ∧ ∃ r j, (r, j) ∈ srcs ∧ G.ow b = some (.leaf r j)) ∧ (k ds srcs).Runs g ls' out
  | [], [], k, ls, out, h => ⟨[], [], [], [], ls, rfl, by simp [RdDVs], fun _ => List.nodup_nil, fun b hb => (by cases hb), by simpa [resDs] using h⟩
  | [], _ :: _, k, ls, out, h => by simp [resDs, Rd.Runs] at h
  | _ :: _, [], k, ls, out, h => by simp [resDs, Rd.Runs] at h
  | t :: ts, rv :: rvs, k, ls, out, h => by
    simp only [resDs] at h
    obtain ⟨d, v, src, S, ls2, h1, h2, h3, h4, h⟩ := resD_sound hS h
    obtain ⟨ds, vs, srcs, S2, ls3, k1, k2, k3, k4, h⟩ := resDs_sound hS ts rvs _ _ _ h
    refine ⟨d :: ds, v :: vs, src ++ srcs, S ++ S2, ls3, ?_, ?_, ?_, ?_, h⟩
    · simp only [List.mapM_cons, Sem.run_bind, h1, Result.andThen_ok, k1, Sem.run_pure]
    · simp only [RdDVs]; exact ⟨v, vs, S, S2, rfl, h2, k2, rfl⟩
    · intro hd
      obtain ⟨d1, d2, d3⟩ := distinctP_append hd
      rw [List.nodup_append]
      refine ⟨h3 d1, k3 d2, fun x hx y hy e => ?_⟩
      subst e
      obtain ⟨_, r, j, m1, m2⟩ := h4 x hx
      obtain ⟨_, r', j', m3, m4⟩ := k4 x hy
      rw [m2] at m4; cases m4
      exact d3 _ m1 m3
    · intro b hb
      rcases List.mem_append.1 hb with hb | hb
      · obtain ⟨u, r, j, m1, m2⟩ := h4 b hb; exact ⟨u, r, j, by simp [m1], m2⟩
      · obtain ⟨u, r, j, m1, m2⟩ := k4 b hb; exact ⟨u, r, j, by simp [m1], m2⟩

theorem results_eq (fn : Func) (tmps : Array Value) : results fn tmps = (fn.results.mapM (resRun tmps) >>= fun vs => pure (if h : vs.size = 1 then vs[0] else .tuple vs) : Sem Value) := by
  unfold results
  congr 1

/-- At the beginning. -/
theorem init_sim (n : Nat) (w : World) (ds : List DV) (vs : List Value) (hargs : RdArgs (fun _ => True) w ds vs) (hn : ds.length ≤ n) :
    Sim ⟨n, w, fun _ => True, fun _ => undef, fun _ => none⟩ (get (initV 0 ds)) { tmps := vs.toArray ++ Array.replicate (n - vs.toArray.size) undef, defers := [] } w := by
  have hlen : ∀ (ds : List DV) (vs : List Value), RdArgs (fun _ => True) w ds vs → vs.length = ds.length := by
    intro ds
    induction ds with
    | nil => intro vs h; simp only [RdArgs] at h; simp [h]
    | cons d ds ih => intro vs h; obtain ⟨v, vs', S, rfl, _, _, h2⟩ := h; simp [ih vs' h2]
  have hl := hlen ds vs hargs
  let G : Gh := { loc := fun _ => none, val := fun _ _ => undef, fp := fun _ _ => [], ow := fun b => if b < w.heap.size then some .ro else none }
  have hro : ∀ b, b < w.heap.size → G.ow b = some .ro := fun b hb => by simp [G, hb]
  have nomem : ∀ (ds : List DV) (p : Nat), (∀ r j, get (initV p ds) (.leaf r j) = none) ∧ (∀ r, get (initV p ds) (.meta_ r) = none) := by
    intro ds
    induction ds with
    | nil => intro p; exact ⟨fun _ _ => rfl, fun _ => rfl⟩
    | cons d ds ih => intro p; simp only [initV, get, W.app]; exact ⟨fun r j => by simp [(ih (p + 1)).1 r j], fun r => by simp [(ih (p + 1)).2 r]⟩
  have regs : ∀ (ds : List DV) (vs : List Value) (p : Nat), RdArgs (fun _ => True) w ds vs → ∀ d x, get (initV p ds) (.reg d) = some x → ∃ i r, d = p + i ∧ i < vs.length ∧ x = .r r ∧ ROk (gl (get (initV 0 ([] : List DV)))) G w r (vs.getD i undef) := by
    intro ds
    induction ds with
    | nil => intro vs p _ d x h; simp [initV, get] at h
    | cons d0 ds ih =>
      intro vs p h d x hx
      obtain ⟨v, vs', S, rfl, h1, _, h2⟩ := h
      simp only [initV, get, W.app] at hx
      split at hx
      · rename_i e; cases e; cases hx
        refine ⟨0, argR d0, rfl, by simp, rfl, ?_⟩
        simp only [List.getD_cons_zero]
        cases d0 with
        | one l =>
          simp only [argR, ROk]
          have := roA_ok (γ := gl (get (initV 0 ([] : List DV)))) (G := G) [l] [v] S (by simp only [RdRec]; exact ⟨v, [], S, [], rfl, h1, ⟨rfl, rfl⟩, by simp⟩) (fun b hb => hro b (RdL.lt _ _ _ h1 b hb))
          simp only [List.map_cons, List.map_nil, AOks] at this
          obtain ⟨v', vs'', e, h3, _⟩ := this
          cases e; exact h3
        | agg lls =>
          obtain ⟨us, e, h1⟩ := h1
          simp only [argR, ROk]
          exact ⟨us, e, roA_ok _ _ S h1 (fun b hb => hro b (RdRec.lt _ _ _ h1 b hb))⟩
      · obtain ⟨i, r, e1, e2, e3, e4⟩ := ih vs' (p + 1) h2 d x hx
        exact ⟨i + 1, r, by omega, by simpa using e2, e3, by simpa using e4⟩
  have hgl : gl (get (initV 0 ds)) = gl (get (initV 0 ([] : List DV))) := by
    funext r j; simp [gl, (nomem ds 0).1, (nomem [] 0).1]
  refine ⟨G, rfl, by simp; omega, ?_, ?_, ?_, ?_, ?_, ?_, Same.refl _ _, ?_, (fun r j h e => by rw [gl_some, (nomem ds 0).1] at e; cases e), (fun r x e => by cases e)⟩
  · intro d x hx
    obtain ⟨i, r, e1, e2, e3, e4⟩ := regs ds vs 0 hargs d x hx
    have hd : d = i := by omega
    subst hd
    refine ⟨by show d < n; omega, r, e3, ?_⟩
    rw [hgl]
    have : (vs.toArray ++ Array.replicate (n - vs.toArray.size) undef).getD d undef = vs.getD d undef := by
      simp only [Array.getD_eq_getD_getElem?]
      rw [Array.getElem?_append_left (by simpa using e2)]
      simp [List.getD]
    simp only
    rw [this]; exact e4
  · intro r k hk; rw [(nomem ds 0).2] at hk; cases hk
  · intro r j x hx; rw [(nomem ds 0).1] at hx; cases hx
  · intro r x hx; rw [(nomem ds 0).2] at hx; cases hx
  · intro r b hb; cases hb
  · intro b t hb
    by_cases c : b < w.heap.size
    · exact c
    · simp [G, c] at hb
  · intro b hb _; exact .inr (hro b hb)

end

end Go.V
