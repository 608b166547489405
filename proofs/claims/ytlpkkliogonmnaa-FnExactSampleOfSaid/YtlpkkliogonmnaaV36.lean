/-
  The value-level condition generator, part 36: contracts of functions that write into their arguments, or call such.
-/
import Derived.Test.YtlpkkliogonmnaaV35
set_option linter.all false

namespace Go.V

def noMT {Φ : Type} (_ : Φ) : MT := fun _ => none
def noC {Φ : Type} (_ : Φ) : CT := fun _ _ => none

section
variable {P : Program} {T : Tab} {cx : Cx} {G : Gh} {g : Gm} {a : Act} {w : World}

theorem initM_sim (n : Nat) (w : World) (ds : List DV) (vs : List Value) (S : List Nat) (hr : RdDVs w ds vs S) (hnd : S.Nodup) (hunf : ∀ b ∈ S, Unf w b) (hn : ds.length ≤ n) :
    Sim ⟨n, w, fun b => b ∉ S, fun i => (argVals ds vs).getD i undef, fun _ => none⟩ (get (initM stdO ds)) { tmps := vs.toArray ++ Array.replicate (n - vs.toArray.size) undef, defers := [] } w := by
  have hlen : ∀ (ds : List DV) (vs : List Value) (S : List Nat), RdDVs w ds vs S → vs.length = ds.length := by
    intro ds
    induction ds with
    | nil => intro vs S h; simp only [RdDVs] at h; simp [h.1]
    | cons d ds ih => intro vs S h; simp only [RdDVs] at h; obtain ⟨v, vs', S1, S2, rfl, _, h2, _⟩ := h; simp [ih _ _ h2]
  have hl := hlen ds vs S hr
  open Classical in
  let G : Gh := { loc := fun _ => none, val := fun _ _ => undef, fp := fun _ _ => [], ow := fun b => if b ∈ S then some (.leaf n 0) else if b < w.heap.size then some .ro else none }
  unfold initM
  rw [get_push]
  refine initWs_sim ds 0 0 vs S (get []) G ?_ (fun _ _ => rfl) hr hnd (fun b hb => ⟨hunf b hb, by simp [G, hb]⟩) (by simp; omega) ?_ ?_
  · refine ⟨rfl, by simp; omega, ?_, ?_, ?_, ?_, ?_, ?_, Same.refl _ _, ?_, ?_, ?_⟩
    · intro d x hx; cases hx
    · intro r k hk; cases hk
    · intro r j x hx; cases hx
    · intro r x hx; cases hx
    · intro r b hb; cases hb
    · intro b t hb
      by_cases c : b ∈ S
      · exact (hunf b c).lt
      · by_cases c2 : b < w.heap.size
        · exact c2
        · simp [G, c, c2] at hb
    · intro b hb hf
      have hf : b ∉ S := hf
      have hb : b < w.heap.size := hb
      right; simp [G, hf, hb]
    · intro r j h e; simp [gl, get] at e
    · intro r x e; cases e
  · intro k v e
    have hk : k < vs.length := (List.getElem?_eq_some_iff.1 e).1
    simp only [Nat.zero_add, Array.getD_eq_getD_getElem?]
    rw [Array.getElem?_append_left (by simpa using hk)]
    simp [e]
  · intro k v e
    simp only [Nat.zero_add, List.getD_eq_getElem?_getD, e]; rfl

theorem outsR_sound (hS : SimG cx G g a w) {α : Type} {k : Rd α} {os : Nat → L} : ∀ (locs : List (Nat × Nat)) (i : Nat) (ls : List Loc) (out : α), (outsR prS os locs i k).Runs g ls out →
    (∀ p ∈ locs, ∃ h sz es, g (.leaf p.1 p.2) = some (.h h) ∧ h.c = .own (.s sz es)) ∧ RdRec w ((List.range' i locs.length).map os) ((List.range' i locs.length).map cx.anc) (fpsOf G locs)
  | [], i, ls, out, h => ⟨(fun p hp => by cases hp), by simp [RdRec, fpsOf]⟩
  | (r, j) :: ps, i, ls, out, h => by
    obtain ⟨hv, ls2, q1, q2, hk⟩ := rdH_sound (k := fun h => match h.org with
      | some i' => if Nat.beq i' i then match h.c with
        | .own (.s sz es) => .req (prS fun _ => L.s sz es = os i) (outsR prS os ps (i + 1) k)
        | _ => .fail
        else .fail
      | none => .fail) h
    cases ho : hv.org with
    | none => simp [ho, Rd.Runs] at hk
    | some i' =>
      simp only [ho] at hk
      split at hk
      case isFalse => exact hk.elim
      rename_i hb
      have hi := Nat.eq_of_beq_eq_true hb
      subst hi
      split at hk
      · rename_i sz es hc
        obtain ⟨hp, hk⟩ := hk
        have hp : L.s sz es = os i' := hp
        obtain ⟨k1, k2⟩ := outsR_sound hS ps (i' + 1) _ _ hk
        have hval := hS.anc r j hv q1 i' ho ⟨_, hc⟩
        have hok := hS.hok q1
        simp only [HOk, hc] at hok
        refine ⟨fun p hp => ?_, ?_⟩
        · rcases List.mem_cons.1 hp with rfl | hp
          · exact ⟨hv, sz, es, q2, hc⟩
          · exact k1 p hp
        · simp only [RdRec, List.length_cons, List.range'_succ, List.map_cons]
          exact ⟨_, _, G.fp r j, fpsOf G ps, rfl, by rw [← hval, ← hp]; exact hok.1, k2, rfl⟩
      · exact hk.elim

theorem argVals_length : ∀ {ds : List DV} {vs : List Value} {S : List Nat}, RdDVs w ds vs S → (argVals ds vs).length = (ds.flatMap fun d => slL (dvLeaves d)).length
  | [], vs, S, h => by simp only [RdDVs] at h; simp [h.1, argVals]
  | d :: ds, vs, S, h => by
    simp only [RdDVs] at h
    obtain ⟨v, vs', S1, S2, rfl, h1, h2, rfl⟩ := h
    have ih := argVals_length h2
    cases d with
    | one l =>
      have : (slV [l] [v]).length = (slL [l]).length := slV_length rfl
      simp only [argVals, List.length_append, List.flatMap_cons, dvLeaves, this, ih]
    | agg ls =>
      obtain ⟨us, rfl, h1⟩ := h1
      have := slV_length h1.length
      simp only [argVals, List.length_append, List.flatMap_cons, dvLeaves, ih]
      omega

theorem res_value {fn : Func} {tmps : Array Value} {w' : World} {vs' : List Value} {ds' : List DV} {S : List Nat} (k1 : (fn.results.toList.mapM (resRun tmps)).run P w' = .ok vs' w') (k2 : RdDVs w' ds' vs' S) :
    ∃ v, (results fn tmps).run P w' = .ok v w' ∧ RdRes w' ds' v S := by
  have hrun : (results fn tmps).run P w' = .ok (if h : vs'.toArray.size = 1 then vs'.toArray[0] else .tuple vs'.toArray) w' := by
    rw [results_eq, Array.mapM_eq_mapM_toList (m := Sem)]
    simp only [Sem.run_bind, Sem.run_map, k1, Result.andThen_ok, Sem.run_pure]
  refine ⟨_, hrun, ?_⟩
  have hl : ∀ {ds : List DV} {vs : List Value} {S : List Nat}, RdDVs w' ds vs S → vs.length = ds.length := by
    intro ds
    induction ds with
    | nil => intro vs S h; simp only [RdDVs] at h; simp [h.1]
    | cons d ds ih => intro vs S h; simp only [RdDVs] at h; obtain ⟨v, vs', S1, S2, rfl, _, h2, _⟩ := h; simp [ih h2]
  have hlen := hl k2
  cases ds' with
  | nil =>
    have : vs' = [] := List.eq_nil_of_length_eq_zero hlen
    subst this
    exact ⟨[], by simp, k2⟩
  | cons d1 rest =>
    cases rest with
    | nil =>
      simp only [RdDVs] at k2
      obtain ⟨v, vs'', S1, S2, rfl, q1, ⟨rfl, rfl⟩, rfl⟩ := k2
      simpa [RdRes] using q1
    | cons d2 rest =>
      have : ¬ vs'.toArray.size = 1 := by simp at hlen; simp; omega
      rw [dif_neg this]
      exact ⟨vs', rfl, k2⟩

theorem mctr_of_vwpM (hT : TabOk P T) {Φ : Type} {F0 : Φ} {ctF : Φ → CT} {mtF : Φ → MT} (hct : CTok P (ctF F0)) (hmt : MTok P (mtF F0)) (hm : P.follows .mixedOrders = true) {f : FuncId} {fn : Func} {ds res : List DV} {outs : List L} (n : Nat) (c : Code) (ts : List TypeId) (rvs : List ResultVar) (locs : List (Nat × Nat))
    (hf : P.funcs[f]? = some fn) (hb : fn.body = some c) (hnt : fn.ntmps = n) (hts : fn.resultTypes.toList = ts) (hrv : fn.results.toList = rvs) (hn : Nat.ble ds.length n = true) (hlo : (ds.flatMap fun d => slL (dvLeaves d)).length = outs.length) (hlo2 : locs.length = outs.length)
    (h : ∀ pr ar sh cmp wr bq bn sel mm ln zi nn ad df cat sub rep gi gb gt gs pi pb pt ps up r os F, Std pr ar sh cmp wr bq bn sel mm ln zi nn ad df cat sub rep gi gb gt gs pi pb pt ps up → r = res → os = (fun i => outs.getD i .g) → F = F0 →
      vwpO T ⟨pr, ar, sh, cmp, wr, bq, bn, sel, mm, ln, zi, nn, ad, df, cat, sub, rep, gi, gb, gt, gs, pi, pb, pt, ps, up⟩ ⟨ctF F, mtF F⟩ n [] c (finM T ⟨pr, ar, sh, cmp, wr, bq, bn, sel, mm, ln, zi, nn, ad, df, cat, sub, rep, gi, gb, gt, gs, pi, pb, pt, ps, up⟩ ts rvs locs r os)
        (initM ⟨pr, ar, sh, cmp, wr, bq, bn, sel, mm, ln, zi, nn, ad, df, cat, sub, rep, gi, gb, gt, gs, pi, pb, pt, ps, up⟩ ds)) : MCtr P f ds outs res := by
  subst hnt hts hrv
  replace h : ∀ O, O = stdO → vwpO T O ⟨ctF F0, mtF F0⟩ fn.ntmps [] c (finM T O fn.resultTypes.toList fn.results.toList locs res (fun i => outs.getD i .g)) (initM O ds) := by
    rintro O rfl
    exact h _ _ _ _ _ _ _ _ _ _ _ _ _ _ _ _ _ _ _ _ _ _ _ _ _ _ _ _ _ ⟨rfl, rfl, rfl, rfl, rfl, rfl, rfl, rfl, rfl, rfl, rfl, rfl, rfl, rfl, rfl, rfl, rfl, rfl, rfl, rfl, rfl, rfl, rfl, rfl, rfl, rfl⟩ rfl rfl rfl
  replace hn := Nat.le_of_ble_eq_true hn
  intro w vs S hr hnd hunf
  refine calls_of_wp hf hb ?_
  refine Code.wp_mono ?_ (vwpO_sound (cx := ⟨fn.ntmps, w, fun b => b ∉ S, fun i => (argVals ds vs).getD i undef, fun _ => none⟩) hT (ct := ⟨ctF F0, mtF F0⟩) ⟨hct, hmt⟩ hm rfl (an := []) (fun r x e => by cases e) c _ _ _ w (h _ rfl) (initM_sim fn.ntmps w ds vs S hr hnd hunf hn))
  rintro e a' w' ⟨ex, σ', rfl, hq', G, hS⟩
  have hq : vretM T stdO fn.resultTypes.toList fn.results.toList locs σ' res (fun i => outs.getD i .g) := by
    cases ex with
    | normal => exact hq'
    | ret => exact hq'
    | exit i => exact hq'.elim
  have hex : ex = .normal ∨ ex = .ret := by
    cases ex with
    | normal => exact .inl rfl
    | ret => exact .inr rfl
    | exit i => exact hq'.elim
  unfold vretM at hq
  obtain ⟨ls, u, t, h1, _⟩ := Rd.wpU_runs hq
  obtain ⟨ds', vs', srcs, Sr, ls', k1, k2, k3, k4, k5⟩ := resDs_sound hS _ _ _ _ _ (resDsO_ref hT (fun _ _ _ h => h) h1)
  split at k5
  case isFalse => exact k5.elim
  rename_i hd
  obtain ⟨hres0, k5⟩ := k5
  have hres0 : ds' = res := hres0
  subst hres0
  obtain ⟨d1, d2, d3⟩ := distinctP_append hd
  obtain ⟨o1, o2⟩ := outsR_sound hS locs 0 _ _ k5
  rw [hlo2] at o2
  have houts : (List.range' 0 outs.length).map (fun i => outs.getD i .g) = outs := by
    apply List.ext_getElem?
    intro i
    rw [List.getElem?_map]
    by_cases c : i < outs.length
    · rw [List.getElem?_range' c]
      simp [List.getD, c]
    · rw [List.getElem?_eq_none (by simp; omega), List.getElem?_eq_none (by omega)]; rfl
  rw [houts] at o2
  obtain ⟨f1, f2⟩ := fpsOf_nodup hS d2 o1
  have hanc : (List.range' 0 outs.length).map (fun i => (argVals ds vs).getD i undef) = argVals ds vs := by
    have hl := argVals_length hr
    rw [hlo] at hl
    rw [← hl]
    apply List.ext_getElem?
    intro i
    rw [List.getElem?_map]
    by_cases c : i < (argVals ds vs).length
    · rw [List.getElem?_range' c]
      simp [List.getD, c]
    · rw [List.getElem?_eq_none (by simp; omega), List.getElem?_eq_none (by omega)]; rfl
  have o2 : RdRec w' outs (argVals ds vs) (fpsOf G locs) := by rw [← hanc]; exact o2
  obtain ⟨v, hrun, hres⟩ := res_value k1 k2
  have tokL : ∀ b ∈ fpsOf G locs, Unf w' b ∧ ∃ r j, (r, j) ∈ locs ∧ G.ow b = some (.leaf r j) := by
    intro b hb
    obtain ⟨p, hp, hbp⟩ := fpsOf_mem hb
    obtain ⟨h, sz, es, e1, e2⟩ := o1 p hp
    have := hS.hok (gl_some.2 e1)
    simp only [HOk, e2] at this
    exact ⟨(this.2.2 b hbp).2, p.1, p.2, hp, (this.2.2 b hbp).1⟩
  have own : ∀ b r j, Unf w' b → G.ow b = some (.leaf r j) → Unf w' b ∧ (w.heap.size ≤ b ∨ b ∈ S) := by
    intro b r j hu ht
    refine ⟨hu, ?_⟩
    rcases Nat.lt_or_ge b w.heap.size with hlt | hge
    · by_cases c : b ∈ S
      · exact .inr c
      · rcases hS.frow b hlt c with e | e <;> rw [ht] at e <;> cases e
    · exact .inl hge
  have fin : a'.defers = [] ∧ ∃ v, (results fn a'.tmps).run P w' = .ok v w' ∧ ∃ v' Sr S', Ending.returned v = .returned v' ∧ RdRes w' ds' v' Sr ∧ RdRec w' outs (argVals ds vs) S' ∧ (Sr ++ S').Nodup ∧ (∀ b ∈ Sr ++ S', Unf w' b ∧ (w.heap.size ≤ b ∨ b ∈ S)) ∧ Same (fun b => b ∉ S) w w' := by
    refine ⟨hS.defers, _, hrun, _, Sr, fpsOf G locs, rfl, hres, o2, ?_, ?_, hS.frame⟩
    · refine List.nodup_append.2 ⟨k3 d1, f1, fun x hx y hy e => ?_⟩
      subst e
      obtain ⟨_, r, j, m1, m2⟩ := k4 x hx
      obtain ⟨_, r', j', m3, m4⟩ := tokL x hy
      rw [m2] at m4; cases m4
      exact d3 _ m1 m3
    · intro b hb
      rcases List.mem_append.1 hb with q | q
      · obtain ⟨hu, r, j, _, m2⟩ := k4 b q; exact own b r j hu m2
      · obtain ⟨hu, r, j, _, m2⟩ := tokL b q; exact own b r j hu m2
  rcases hex with rfl | rfl
  · exact fin
  · exact fin

theorem noMT_ok {Φ : Type} {F : Φ} : MTok P (noMT F) := by intro f mk h; cases h
theorem noC_ok {Φ : Type} {F : Φ} : CTok P (noC F) := by intro f ds pre res h; cases h

/-- As 'ctr_of_vwpO', with callees that write into their arguments. -/
theorem ctr_of_vwpM (hT : TabOk P T) {Φ : Type} {F0 : Φ} {ctF : Φ → CT} {mtF : Φ → MT} (hct : CTok P (ctF F0)) (hmt : MTok P (mtF F0)) (hm : P.follows .mixedOrders = true) {f : FuncId} {fn : Func} {ds res : List DV} (n : Nat) (c : Code) (ts : List TypeId) (rvs : List ResultVar)
    (hf : P.funcs[f]? = some fn) (hb : fn.body = some c) (hnt : fn.ntmps = n) (hts : fn.resultTypes.toList = ts) (hrv : fn.results.toList = rvs) (hn : Nat.ble ds.length n = true)
    (h : ∀ pr ar sh cmp wr bq bn sel mm ln zi nn ad df cat sub rep gi gb gt gs pi pb pt ps up r F, Std pr ar sh cmp wr bq bn sel mm ln zi nn ad df cat sub rep gi gb gt gs pi pb pt ps up → r = res → F = F0 →
      vwpO T ⟨pr, ar, sh, cmp, wr, bq, bn, sel, mm, ln, zi, nn, ad, df, cat, sub, rep, gi, gb, gt, gs, pi, pb, pt, ps, up⟩ ⟨ctF F, mtF F⟩ n [] c (finQ T ⟨pr, ar, sh, cmp, wr, bq, bn, sel, mm, ln, zi, nn, ad, df, cat, sub, rep, gi, gb, gt, gs, pi, pb, pt, ps, up⟩ ts rvs r) (initV 0 ds)) : Ctr P f ds res := by
  subst hnt hts hrv
  replace h : ∀ O, O = stdO → vwpO T O ⟨ctF F0, mtF F0⟩ fn.ntmps [] c (finQ T O fn.resultTypes.toList fn.results.toList res) (initV 0 ds) := by
    rintro O rfl
    exact h _ _ _ _ _ _ _ _ _ _ _ _ _ _ _ _ _ _ _ _ _ _ _ _ _ _ _ _ ⟨rfl, rfl, rfl, rfl, rfl, rfl, rfl, rfl, rfl, rfl, rfl, rfl, rfl, rfl, rfl, rfl, rfl, rfl, rfl, rfl, rfl, rfl, rfl, rfl, rfl, rfl⟩ rfl rfl
  replace hn := Nat.le_of_ble_eq_true hn
  intro w vs hargs
  refine calls_of_wp hf hb ?_
  refine Code.wp_mono ?_ (vwpO_sound (cx := ⟨fn.ntmps, w, fun _ => True, fun _ => undef, fun _ => none⟩) hT (ct := ⟨ctF F0, mtF F0⟩) ⟨hct, hmt⟩ hm rfl (an := []) (fun r x e => by cases e) c _ _ _ w (h _ rfl) (init_sim fn.ntmps w ds vs hargs hn))
  rintro e a' w' ⟨ex, σ', rfl, hq', G, hS⟩
  have hq : vretO T stdO fn.resultTypes.toList fn.results.toList σ' res := by
    cases ex with
    | normal => exact hq'
    | ret => exact hq'
    | exit i => exact hq'.elim
  have hex : ex = .normal ∨ ex = .ret := by
    cases ex with
    | normal => exact .inl rfl
    | ret => exact .inr rfl
    | exit i => exact hq'.elim
  unfold vretO at hq
  obtain ⟨ls, u, t, h1, _⟩ := Rd.wpU_runs hq
  obtain ⟨ds', vs', srcs, S, ls', k1, k2, k3, k4, k5⟩ := resDs_sound hS _ _ _ _ _ (resDsO_ref hT (fun _ _ _ h => h) h1)
  split at k5
  case isFalse => exact k5.elim
  rename_i hd
  simp only [Rd.Runs] at k5
  have hres0 : ds' = res := k5.1
  subst hres0
  obtain ⟨v, hrun, hres⟩ := res_value k1 k2
  have hfresh : ∀ b ∈ S, w.heap.size ≤ b ∧ Unf w' b := by
    intro b hb
    obtain ⟨u, r, j, m1, m2⟩ := k4 b hb
    refine ⟨?_, u⟩
    rcases Nat.lt_or_ge b w.heap.size with hlt | hge
    · rcases hS.frow b hlt trivial with e | e <;> rw [m2] at e <;> cases e
    · exact hge
  have fin : a'.defers = [] ∧ ∃ v, (results fn a'.tmps).run P w' = .ok v w' ∧ ∃ v' S, Ending.returned v = .returned v' ∧ RdRes w' ds' v' S ∧ S.Nodup ∧ (∀ b ∈ S, w.heap.size ≤ b ∧ Unf w' b) ∧ Same (fun _ => True) w w' :=
    ⟨hS.defers, _, hrun, _, S, rfl, hres, k3 hd, hfresh, hS.frame⟩
  rcases hex with rfl | rfl
  · exact fin
  · exact fin

end
end Go.V
