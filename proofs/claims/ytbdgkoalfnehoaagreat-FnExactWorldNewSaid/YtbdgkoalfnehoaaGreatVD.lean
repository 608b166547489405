/-
  A condition generator for functions on trees of data, part 4 of 4: values in memory, contracts, soundness.
-/
import Derived.Test.YtbdgkoalfnehoaaGreatVC

set_option linter.all false

/-
  The value-level condition generator, part 42: contracts out of conditions.
-/
namespace Go.V

def outLv {α : Type} (pr : (Unit → Prop) → Prop) (r : Nat) : Nat → List H → (List H → Rd α) → Rd α
  | _, [], k => k []
  | j, h0 :: hs, k => rdH r j fun h => match h.c with
    | .own l => outLv pr r (j + 1) hs fun cs => k (.own l :: cs)
    | .ro l => match h0 with
      | .ro l0 => match h.org with
        | some i => if Nat.beq i (r * 1000 + j) then .req (pr fun _ => l = l0) (outLv pr r (j + 1) hs fun cs => k (.ro l0 :: cs)) else .fail
        | none => .fail
      | _ => .fail
    | .gone => .fail
def outsP {α : Type} (pr : (Unit → Prop) → Prop) (os : Nat → List H) : List (Nat × List H) → Nat → Rd α → Rd α
  | [], _, k => k
  | (r, hs) :: m, i, k => outLv pr r 0 hs fun cs => .req (pr fun _ => cs = os i) (outsP pr os m (i + 1) k)
def vretP (T : Tab) (O : Ops) (ts : List TypeId) (rvs : List ResultVar) (m : List (Nat × List H)) (σ : VS) (res : List DV) (os : Nat → List H) : Prop :=
  (resDsO T O ts rvs fun ds srcs => if distinctP srcs && srcs.all (fun s => m.all fun q => !(s.1.beq q.1)) then .req (O.pr fun _ => ds = res) (outsP O.pr os m 0 (.ret ())) else .fail).wpU (get σ) [] fun _ _ => True
/-- How the condition of a function that writes through pointers ends. -/
def finP (T : Tab) (O : Ops) (ts : List TypeId) (rvs : List ResultVar) (m : List (Nat × List H)) (res : List DV) (os : Nat → List H) : Ex → VS → Prop
  | .normal, σ => vretP T O ts rvs m σ res os
  | .ret, σ => vretP T O ts rvs m σ res os
  | .exit _, _ => False

section
variable {P : Program} {T : Tab} {cx : Cx} {G : Gh} {g : Gm} {a : Act} {w : World}

/-- THE CONTRACT of a function that only reads its arguments, out of its condition. -/
theorem ctr_of (hT : TabOk P T) {Φ : Type} {F0 : Φ} {ctF : Φ → CT} {mtF : Φ → MT} {ptF : Φ → PT} (hct : CTok P (ctF F0)) (hmt : MTok P (mtF F0)) (hpt : PTok P (ptF F0)) (hm : P.follows .mixedOrders = true) {f : FuncId} {fn : Func} {ds res : List DV} (n : Nat) (c : Code) (ts : List TypeId) (rvs : List ResultVar)
    (hf : P.funcs[f]? = some fn) (hb : fn.body = some c) (hnt : fn.ntmps = n) (hts : fn.resultTypes.toList = ts) (hrv : fn.results.toList = rvs) (hn : Nat.ble ds.length n = true)
    (h : ∀ O r F, O = stdO → r = res → F = F0 → vwpO T O ⟨ctF F, mtF F, ptF F⟩ n [] c (finQ T O ts rvs r) (initV 0 ds)) : Ctr P f ds res := by
  subst hnt hts hrv
  replace h := h stdO res F0 rfl rfl rfl
  replace hn := Nat.le_of_ble_eq_true hn
  intro w vs hargs
  refine calls_of_wp hf hb ?_
  refine Code.wp_mono ?_ (vwpO_sound (cx := ⟨fn.ntmps, w, fun _ => True, fun _ => undef, fun _ => none, fun _ => 0⟩) hT (ct := ⟨ctF F0, mtF F0, ptF F0⟩) ⟨hct, hmt, hpt⟩ hm rfl (an := []) (fun r x e => by cases e) c _ _ _ w h (init_sim fn.ntmps w ds vs hargs hn))
  rintro e a' w' ⟨ex, σ', rfl, hq', G, hS⟩
  have hq : vretO T stdO fn.resultTypes.toList fn.results.toList σ' res := by
    cases ex with
    | normal => exact hq'
    | ret => exact hq'
    | exit i => exact hq'.elim
  have hex : ex = .normal ∨ ex = .ret := by
    cases ex with
    | normal => exact .inl rfl
    | ret => exact .inr rfl
    | exit i => exact hq'.elim
  unfold vretO at hq
  obtain ⟨ls, u, t, h1, _⟩ := Rd.wpU_runs hq
  obtain ⟨ds', vs', srcs, S, ls', k1, k2, k3, k4, k5⟩ := resDs_sound hS _ _ _ _ _ (resDsO_ref hT (fun _ _ _ h => h) h1)
  split at k5
  case isFalse => exact k5.elim
  rename_i hd
  simp only [Rd.Runs] at k5
  have hres0 : ds' = res := k5.1
  subst hres0
  obtain ⟨v, hrun, hres⟩ := res_value k1 k2
  have hfresh : ∀ b ∈ S, w.heap.size ≤ b ∧ Unf w' b := by
    intro b hb
    obtain ⟨u, r, j, m1, m2⟩ := k4 b hb
    refine ⟨?_, u⟩
    rcases Nat.lt_or_ge b w.heap.size with hlt | hge
    · rcases hS.frow b hlt trivial with e | e <;> rw [m2] at e <;> cases e
    · exact hge
  have fin : a'.defers = [] ∧ ∃ v, (results fn a'.tmps).run P w' = .ok v w' ∧ ∃ v' S, Ending.returned v = .returned v' ∧ RdRes w' ds' v' S ∧ S.Nodup ∧ (∀ b ∈ S, w.heap.size ≤ b ∧ Unf w' b) ∧ Same (fun _ => True) w w' :=
    ⟨hS.defers, _, hrun, _, S, rfl, hres, k3 hd, hfresh, hS.frame⟩
  rcases hex with rfl | rfl
  · exact fin
  · exact fin


/-- THE CONTRACT of a function that writes into the rows of its arguments, out of its condition. -/
theorem mctr_of (hT : TabOk P T) {Φ : Type} {F0 : Φ} {ctF : Φ → CT} {mtF : Φ → MT} {ptF : Φ → PT} (hct : CTok P (ctF F0)) (hmt : MTok P (mtF F0)) (hpt : PTok P (ptF F0)) (hm : P.follows .mixedOrders = true) {f : FuncId} {fn : Func} {ds res : List DV} {outs : List L} (n : Nat) (c : Code) (ts : List TypeId) (rvs : List ResultVar) (locs : List (Nat × Nat))
    (hf : P.funcs[f]? = some fn) (hb : fn.body = some c) (hnt : fn.ntmps = n) (hts : fn.resultTypes.toList = ts) (hrv : fn.results.toList = rvs) (hn : Nat.ble ds.length n = true) (hlo : (ds.flatMap fun d => slL (dvLeaves d)).length = outs.length) (hlo2 : locs.length = outs.length)
    (h : ∀ O r os F, O = stdO → r = res → os = (fun i => outs.getD i .g) → F = F0 → vwpO T O ⟨ctF F, mtF F, ptF F⟩ n [] c (finM T O ts rvs locs r os) (initM O ds)) : MCtr P f ds outs res := by
  subst hnt hts hrv
  replace h := h stdO res _ F0 rfl rfl rfl rfl
  replace hn := Nat.le_of_ble_eq_true hn
  intro w vs S hr hnd hunf
  refine calls_of_wp hf hb ?_
  refine Code.wp_mono ?_ (vwpO_sound (cx := ⟨fn.ntmps, w, fun b => b ∉ S, fun i => (argVals ds vs).getD i undef, fun _ => none, fun _ => 0⟩) hT (ct := ⟨ctF F0, mtF F0, ptF F0⟩) ⟨hct, hmt, hpt⟩ hm rfl (an := []) (fun r x e => by cases e) c _ _ _ w h (initM_sim fn.ntmps w ds vs S hr hnd hunf hn))
  rintro e a' w' ⟨ex, σ', rfl, hq', G, hS⟩
  have hq : vretM T stdO fn.resultTypes.toList fn.results.toList locs σ' res (fun i => outs.getD i .g) := by
    cases ex with
    | normal => exact hq'
    | ret => exact hq'
    | exit i => exact hq'.elim
  have hex : ex = .normal ∨ ex = .ret := by
    cases ex with
    | normal => exact .inl rfl
    | ret => exact .inr rfl
    | exit i => exact hq'.elim
  unfold vretM at hq
  obtain ⟨ls, u, t, h1, _⟩ := Rd.wpU_runs hq
  obtain ⟨ds', vs', srcs, Sr, ls', k1, k2, k3, k4, k5⟩ := resDs_sound hS _ _ _ _ _ (resDsO_ref hT (fun _ _ _ h => h) h1)
  split at k5
  case isFalse => exact k5.elim
  rename_i hd
  obtain ⟨hres0, k5⟩ := k5
  have hres0 : ds' = res := hres0
  subst hres0
  obtain ⟨d1, d2, d3⟩ := distinctP_append hd
  obtain ⟨o1, o2⟩ := outsR_sound hS locs 0 _ _ k5
  rw [hlo2] at o2
  have houts : (List.range' 0 outs.length).map (fun i => outs.getD i .g) = outs := by
    apply List.ext_getElem?
    intro i
    rw [List.getElem?_map]
    by_cases c : i < outs.length
    · rw [List.getElem?_range' c]
      simp [List.getD, c]
    · rw [List.getElem?_eq_none (by simp; omega), List.getElem?_eq_none (by omega)]; rfl
  rw [houts] at o2
  obtain ⟨f1, f2⟩ := fpsOf_nodup hS d2 o1
  have hanc : (List.range' 0 outs.length).map (fun i => (argVals ds vs).getD i undef) = argVals ds vs := by
    have hl := argVals_length hr
    rw [hlo] at hl
    rw [← hl]
    apply List.ext_getElem?
    intro i
    rw [List.getElem?_map]
    by_cases c : i < (argVals ds vs).length
    · rw [List.getElem?_range' c]
      simp [List.getD, c]
    · rw [List.getElem?_eq_none (by simp; omega), List.getElem?_eq_none (by omega)]; rfl
  have o2 : RdRec w' outs (argVals ds vs) (fpsOf G locs) := by rw [← hanc]; exact o2
  obtain ⟨v, hrun, hres⟩ := res_value k1 k2
  have tokL : ∀ b ∈ fpsOf G locs, Unf w' b ∧ ∃ r j, (r, j) ∈ locs ∧ G.ow b = some (.leaf r j) := by
    intro b hb
    obtain ⟨p, hp, hbp⟩ := fpsOf_mem hb
    obtain ⟨h, sz, es, e1, e2⟩ := o1 p hp
    have := hS.hok (gl_some.2 e1)
    simp only [HOk, e2] at this
    exact ⟨(this.2.2 b hbp).2, p.1, p.2, hp, (this.2.2 b hbp).1⟩
  have own : ∀ b r j, Unf w' b → G.ow b = some (.leaf r j) → Unf w' b ∧ (w.heap.size ≤ b ∨ b ∈ S) := by
    intro b r j hu ht
    refine ⟨hu, ?_⟩
    rcases Nat.lt_or_ge b w.heap.size with hlt | hge
    · by_cases c : b ∈ S
      · exact .inr c
      · rcases hS.frow b hlt c with e | e <;> rw [ht] at e <;> cases e
    · exact .inl hge
  have fin : a'.defers = [] ∧ ∃ v, (results fn a'.tmps).run P w' = .ok v w' ∧ ∃ v' Sr S', Ending.returned v = .returned v' ∧ RdRes w' ds' v' Sr ∧ RdRec w' outs (argVals ds vs) S' ∧ (Sr ++ S').Nodup ∧ (∀ b ∈ Sr ++ S', Unf w' b ∧ (w.heap.size ≤ b ∨ b ∈ S)) ∧ Same (fun b => b ∉ S) w w' := by
    refine ⟨hS.defers, _, hrun, _, Sr, fpsOf G locs, rfl, hres, o2, ?_, ?_, hS.frame⟩
    · refine List.nodup_append.2 ⟨k3 d1, f1, fun x hx y hy e => ?_⟩
      subst e
      obtain ⟨_, r, j, m1, m2⟩ := k4 x hx
      obtain ⟨_, r', j', m3, m4⟩ := tokL x hy
      rw [m2] at m4; cases m4
      exact d3 _ m1 m3
    · intro b hb
      rcases List.mem_append.1 hb with q | q
      · obtain ⟨hu, r, j, _, m2⟩ := k4 b q; exact own b r j hu m2
      · obtain ⟨hu, r, j, _, m2⟩ := tokL b q; exact own b r j hu m2
  rcases hex with rfl | rfl
  · exact fin
  · exact fin


theorem outLv_sound {α : Type} {r : Nat} : ∀ (hs : List H) (j : Nat) (k : List H → Rd α) (ls : List Loc) (out : α), (outLv prS r j hs k).Runs g ls out →
    ∃ cs ls', (k cs).Runs g ls' out ∧ cs.length = hs.length ∧ ∀ (i : Nat) c, cs[i]? = some c → ∃ hv, g (.leaf r (j + i)) = some (.h hv) ∧ hv.c = c ∧ (match c with
      | .own _ => True
      | .ro l => hs[i]? = some (.ro l) ∧ hv.org = some (r * 1000 + (j + i))
      | .gone => False)
  | [], j, k, ls, out, h => ⟨[], ls, h, rfl, fun i c e => by simp at e⟩
  | h0 :: hs, j, k, ls, out, h => by
    obtain ⟨hv, ls2, _, q2, hk⟩ := rdH_sound (k := fun hh => match hh.c with
      | .own l => outLv prS r (j + 1) hs fun cs => k (.own l :: cs)
      | .ro l => match (generalizing := false) h0 with
        | .ro l0 => match hh.org with
          | some i => if Nat.beq i (r * 1000 + j) then .req (prS fun _ => l = l0) (outLv prS r (j + 1) hs fun cs => k (.ro l0 :: cs)) else .fail
          | none => .fail
        | _ => .fail
      | .gone => .fail) h
    cases hc : hv.c with
    | gone => simp [hc, Rd.Runs] at hk
    | own l =>
      simp only [hc] at hk
      obtain ⟨cs, ls3, e1, e2, e3⟩ := outLv_sound hs (j + 1) _ _ _ hk
      refine ⟨_, ls3, e1, by simp [e2], fun i c e => ?_⟩
      cases i with
      | zero => simp at e; subst e; exact ⟨hv, q2, hc, trivial⟩
      | succ i =>
        simp at e
        obtain ⟨hv', k1, k2, k3⟩ := e3 i c e
        refine ⟨hv', by rw [show j + (i + 1) = j + 1 + i from by omega]; exact k1, k2, ?_⟩
        cases c with
        | own l => trivial
        | ro l => exact ⟨by simpa using k3.1, by rw [show j + (i + 1) = j + 1 + i from by omega]; exact k3.2⟩
        | gone => exact k3
    | ro l =>
      simp only [hc] at hk
      cases h0 with
      | own l0 => exact hk.elim
      | gone => exact hk.elim
      | ro l0 =>
        simp only at hk
        cases ho : hv.org with
        | none => simp [ho, Rd.Runs] at hk
        | some i0 =>
          simp only [ho] at hk
          split at hk
          · rename_i hb
            have hi := Nat.eq_of_beq_eq_true hb
            obtain ⟨hl, hk⟩ := hk
            have hl : l = l0 := hl
            subst hl hi
            obtain ⟨cs, ls3, e1, e2, e3⟩ := outLv_sound hs (j + 1) _ _ _ hk
            refine ⟨_, ls3, e1, by simp [e2], fun i c e => ?_⟩
            cases i with
            | zero => simp at e; subst e; exact ⟨hv, q2, hc, by simp, ho⟩
            | succ i =>
              simp at e
              obtain ⟨hv', k1, k2, k3⟩ := e3 i c e
              refine ⟨hv', by rw [show j + (i + 1) = j + 1 + i from by omega]; exact k1, k2, ?_⟩
              cases c with
              | own l => trivial
              | ro l => exact ⟨by simpa using k3.1, by rw [show j + (i + 1) = j + 1 + i from by omega]; exact k3.2⟩
              | gone => exact k3
          · exact hk.elim
theorem outsP_sound {α : Type} {os : Nat → List H} : ∀ (m : List (Nat × List H)) (i : Nat) (k : Rd α) (ls : List Loc) (out : α), (outsP prS os m i k).Runs g ls out →
    ∀ (n r : Nat) hs, m[n]? = some (r, hs) → (os (i + n)).length = hs.length ∧ ∀ (j : Nat) c, (os (i + n))[j]? = some c → ∃ hv, g (.leaf r j) = some (.h hv) ∧ hv.c = c ∧ (match c with
      | .own _ => True
      | .ro l => hs[j]? = some (.ro l) ∧ hv.org = some (r * 1000 + j)
      | .gone => False)
  | [], i, k, ls, out, h => fun n r hs e => by simp at e
  | (r0, hs0) :: m, i, k, ls, out, h => by
    obtain ⟨cs, ls2, h1, h2, h3⟩ := outLv_sound _ _ _ _ _ h
    obtain ⟨he, h1⟩ := h1
    have he : cs = os i := he
    intro n r hs e
    cases n with
    | zero =>
      simp at e; obtain ⟨rfl, rfl⟩ := e
      rw [Nat.add_zero, ← he]
      refine ⟨h2, fun j c hc => ?_⟩
      have := h3 j c hc
      simpa using this
    | succ n =>
      simp at e
      have := outsP_sound m (i + 1) k _ _ h1 n r hs e
      rw [show i + (n + 1) = i + 1 + n from by omega]; exact this
theorem mpL_of {w : World} {ok : Nat → Prop} : ∀ {ds : List DV} {vs : List Value} {ps : List PArg} {p k : Nat} {q : PArg}, PArgs w ok ds vs ps → ps[k]? = some q → ∃ r, (mpL p ds)[k]? = some (r, q.hs)
  | [], vs, ps, p, k, q, h, e => by simp only [PArgs] at h; rw [h.2] at e; simp at e
  | d :: ds, vs, ps, p, k, q, h, e => by
    cases d with
    | mp hs =>
      obtain ⟨p0, ps', vs', rfl, rfl, e0, h⟩ := h
      cases k with
      | zero => simp at e; subst e; exact ⟨p, by simp [mpL, e0]⟩
      | succ k => simp at e; obtain ⟨r, hr⟩ := mpL_of (p := p + 1) h e; exact ⟨r, by simpa [mpL] using hr⟩
    | one l => obtain ⟨v, vs', S, rfl, _, _, h⟩ := h; exact mpL_of (p := p + 1) h e
    | agg l => obtain ⟨v, vs', S, rfl, _, _, h⟩ := h; exact mpL_of (p := p + 1) h e
    | ptr l => obtain ⟨v, vs', S, rfl, _, _, h⟩ := h; exact mpL_of (p := p + 1) h e
    | fn f l => obtain ⟨v, vs', S, rfl, _, _, h⟩ := h; exact mpL_of (p := p + 1) h e

open Classical in
/-- **THE CONTRACT of a function that writes through its pointers, out of its condition.** -/
theorem pctr_of (hT : TabOk P T) {Φ : Type} {F0 : Φ} {ctF : Φ → CT} {mtF : Φ → MT} {ptF : Φ → PT} (hct : CTok P (ctF F0)) (hmt : MTok P (mtF F0)) (hpt : PTok P (ptF F0)) (hm : P.follows .mixedOrders = true) {f : FuncId} {fn : Func} {ds res : List DV} {outs : List (List H)} (n : Nat) (c : Code) (ts : List TypeId) (rvs : List ResultVar)
    (hf : P.funcs[f]? = some fn) (hb : fn.body = some c) (hnt : fn.ntmps = n) (hts : fn.resultTypes.toList = ts) (hrv : fn.results.toList = rvs) (hn : Nat.ble ds.length n = true) (hlo : (mpL 0 ds).length = outs.length) (hl0 : (mpL 0 ds).all (fun q => q.2.length.ble 999) = true)
    (h : ∀ O r os F, O = stdO → r = res → os = (fun i => outs.getD i []) → F = F0 → vwpO T O ⟨ctF F, mtF F, ptF F⟩ n ((mpL 0 ds).map (·.1)) c (finP T O ts rvs (mpL 0 ds) r os) (initPs 0 ds)) : PCtr P f ds outs res := by
  subst hnt hts hrv
  replace h := h stdO res _ F0 rfl rfl rfl rfl
  replace hn := Nat.le_of_ble_eq_true hn
  intro w vs ps hpre
  have ix := fun {r q} => pAt_ix (p := 0) (r := r) (q := q) hpre.args
  have hlt : ∀ {r q}, pAt 0 ds ps r = some q → q.hs.length ≤ 999 := by
    intro r q e
    obtain ⟨k, e1, _⟩ := ix.1 e
    have := List.all_eq_true.1 hl0 _ (List.mem_of_getElem? e1)
    exact Nat.le_of_ble_eq_true this
  let anc : Nat → Value := fun i => ((pAt 0 ds ps (i / 1000)).map fun q => q.val (i % 1000)).getD undef
  have hanc : ∀ r q j l, pAt 0 ds ps r = some q → q.hs[j]? = some (.ro l) → anc (r * 1000 + j) = q.val j := by
    intro r q j l e e1
    have h1 := (List.getElem?_eq_some_iff.1 e1).1
    have h2 := hlt e
    have h3 : (r * 1000 + j) / 1000 = r := by omega
    have h4 : (r * 1000 + j) % 1000 = j := by omega
    simp only [anc, h3, h4, e, Option.map_some, Option.getD_some]
  refine calls_of_wp hf hb ?_
  have hini := initP_sim fn.ntmps w ds vs ps hpre hn anc hanc
  refine Code.wp_mono ?_ (vwpO_sound (cx := ⟨fn.ntmps, w, fun b => ¬ OwnB ps b ∧ ¬ PtrB ps b, anc, fun r => (pAt 0 ds ps r).map fun (q : PArg) => (q.b, q.off), fun r => ((pAt 0 ds ps r).map fun (q : PArg) => q.hs.length).getD 0⟩) hT (ct := ⟨ctF F0, mtF F0, ptF F0⟩) ⟨hct, hmt, hpt⟩ hm rfl (an := (mpL 0 ds).map (·.1)) (fun r x e => by
    cases e0 : pAt 0 ds ps r with
    | none => simp [e0] at e
    | some q => obtain ⟨k, e1, _⟩ := ix.1 e0; exact List.mem_map.2 ⟨_, List.mem_of_getElem? e1, rfl⟩) c _ _ _ w h hini)
  rintro e a' w' ⟨ex, σ', rfl, hq', G, hS⟩
  have hq : vretP T stdO fn.resultTypes.toList fn.results.toList (mpL 0 ds) σ' res (fun i => outs.getD i []) := by
    cases ex with
    | normal => exact hq'
    | ret => exact hq'
    | exit i => exact hq'.elim
  have hex : ex = .normal ∨ ex = .ret := by
    cases ex with
    | normal => exact .inl rfl
    | ret => exact .inr rfl
    | exit i => exact hq'.elim
  unfold vretP at hq
  obtain ⟨ls, u, t, h1, _⟩ := Rd.wpU_runs hq
  obtain ⟨ds', vs', srcs, Sr, ls', k1, k2, k3, k4, k5⟩ := resDs_sound hS _ _ _ _ _ (resDsO_ref hT (fun _ _ _ h => h) h1)
  split at k5
  case isFalse => exact k5.elim
  rename_i hd
  simp only [Bool.and_eq_true] at hd
  obtain ⟨hd1, hd2⟩ := hd
  obtain ⟨hres0, k5⟩ := k5
  have hres0 : ds' = res := hres0
  subst hres0
  have o1 := outsP_sound _ _ _ _ _ k5
  obtain ⟨v, hrun, hres⟩ := res_value k1 k2
  -- the pointers behind the call
  have plen : ps.length = outs.length := by
    rw [← hlo]
    have key : ∀ {ds : List DV} {vs : List Value} {ps : List PArg} {p : Nat} {ok : Nat → Prop}, PArgs w ok ds vs ps → ps.length = (mpL p ds).length := by
      intro ds
      induction ds with
      | nil => intro vs ps p ok h; simp only [PArgs] at h; simp [h.2, mpL]
      | cons d ds ih =>
        intro vs ps p ok h
        cases d with
        | mp hs => obtain ⟨p0, ps', vs', rfl, rfl, _, h⟩ := h; simp [mpL, ih (p := p + 1) h]
        | one l => obtain ⟨v, vs', S, rfl, _, _, h⟩ := h; exact ih (p := p + 1) h
        | agg l => obtain ⟨v, vs', S, rfl, _, _, h⟩ := h; exact ih (p := p + 1) h
        | ptr l => obtain ⟨v, vs', S, rfl, _, _, h⟩ := h; exact ih (p := p + 1) h
        | fn f l => obtain ⟨v, vs', S, rfl, _, _, h⟩ := h; exact ih (p := p + 1) h
    exact key hpre.args
  let pst : Nat → PArg := fun k =>
    { b := (ps.getD k ⟨0, 0, [], fun _ => undef, fun _ => []⟩).b, off := (ps.getD k ⟨0, 0, [], fun _ => undef, fun _ => []⟩).off, hs := outs.getD k [],
      val := fun j => G.val ((mpL 0 ds).getD k (0, [])).1 j,
      fp := fun j => match (outs.getD k [])[j]? with
        | some (.own _) => G.fp ((mpL 0 ds).getD k (0, [])).1 j
        | _ => (ps.getD k ⟨0, 0, [], fun _ => undef, fun _ => []⟩).fp j }
  have info : ∀ (k : Nat) q', ((List.range ps.length).map pst)[k]? = some q' → ∃ q r, ps[k]? = some q ∧ (mpL 0 ds)[k]? = some (r, q.hs) ∧ pAt 0 ds ps r = some q ∧ q' = pst k ∧ q'.b = q.b ∧ q'.off = q.off ∧ outs[k]? = some q'.hs ∧ q'.hs.length = q.hs.length ∧ (∀ j, q'.val j = G.val r j) ∧ (∀ j l, q'.hs[j]? = some (.own l) → q'.fp j = G.fp r j) ∧
      ∀ (j : Nat) c, q'.hs[j]? = some c → ∃ hv, get σ' (.leaf r j) = some (.h hv) ∧ hv.c = c ∧ (match c with
        | .own _ => True
        | .ro l => q.hs[j]? = some (.ro l) ∧ hv.org = some (r * 1000 + j)
        | .gone => False) := by
    intro k q' e
    rw [List.getElem?_map, Option.map_eq_some_iff] at e
    obtain ⟨k', e1, rfl⟩ := e
    obtain ⟨hk, rfl⟩ := List.getElem?_eq_some_iff.1 e1
    simp only [List.length_range] at hk
    simp only [List.getElem_range]
    have hq : ps[k]? = some ps[k] := List.getElem?_eq_getElem hk
    obtain ⟨r, hr⟩ := mpL_of (p := 0) hpre.args hq
    have hpa : pAt 0 ds ps r = some ps[k] := ix.2 ⟨k, hr, hq⟩
    have hout : outs[k]? = some outs[k] := List.getElem?_eq_getElem (by omega)
    have g1 : ps.getD k ⟨0, 0, [], fun _ => undef, fun _ => []⟩ = ps[k] := by simp [List.getD, hq]
    have g2 : outs.getD k [] = outs[k] := by simp [List.getD, hout]
    have g3 : (mpL 0 ds).getD k (0, []) = (r, ps[k].hs) := by simp [List.getD, hr]
    obtain ⟨m1, m2⟩ := o1 k r _ hr
    rw [Nat.zero_add] at m1 m2
    refine ⟨ps[k], r, hq, hr, hpa, trivial, by simp only [pst, g1], by simp only [pst, g1], by simp only [pst, g2]; exact hout, by simp only [pst]; exact m1, fun j => by simp only [pst, g3], fun j l e => ?_, fun j c e => ?_⟩
    · simp only [pst] at e ⊢
      rw [e]; simp only [g3]
    · exact m2 j c e
  have meta_ : ∀ {r q}, pAt 0 ds ps r = some q → G.loc r = some (q.b, q.off) ∧ get σ' (.meta_ r) = some (.m q.hs.length true) := by
    intro r q e
    have := hS.aloc r (q.b, q.off) (by simp [e])
    simpa [e] using this
  have mem : ∀ q' ∈ (List.range ps.length).map pst, ∃ k : Nat, ((List.range ps.length).map pst)[k]? = some q' := fun q' hq => by
    obtain ⟨k, hk⟩ := List.getElem?_of_mem hq; exact ⟨k, hk⟩
  have ownTok : ∀ b, OwnB ((List.range ps.length).map pst) b → ∃ r j q, pAt 0 ds ps r = some q ∧ G.ow b = some (.leaf r j) ∧ Unf w' b := by
    rintro b ⟨q', hq, j, l, e1, e2⟩
    obtain ⟨k, hk⟩ := mem q' hq
    obtain ⟨q, r, i1, i2, i3, i4, i5, i6, i7, i8, i9, i10, i11⟩ := info k q' hk
    obtain ⟨hv, m1, m2, _⟩ := i11 j _ e1
    rw [i10 j l e1] at e2
    have := hS.hok (gl_some.2 m1)
    simp only [HOk, m2] at this
    exact ⟨r, j, q, i3, this.2.2 b e2⟩
  have ptrTok : ∀ b, PtrB ps b → ∃ k, G.ow b = some (.box k) := by
    rintro b ⟨q, hq, rfl⟩
    obtain ⟨k, hk⟩ := List.getElem?_of_mem hq
    obtain ⟨r, hr⟩ := mpL_of (p := 0) hpre.args hk
    obtain ⟨f1, f2⟩ := meta_ (ix.2 ⟨k, hr, hk⟩)
    obtain ⟨b', off', cur, ty, z1, z2, _⟩ := hS.boxes r _ f2
    rw [f1] at z1; cases z1
    exact ⟨_, z2⟩
  have own : ∀ b r j, Unf w' b → G.ow b = some (.leaf r j) → Unf w' b ∧ (w.heap.size ≤ b ∨ OwnB ps b) := by
    intro b r j hu ht
    refine ⟨hu, ?_⟩
    rcases Nat.lt_or_ge b w.heap.size with hlt | hge
    · by_cases c1 : OwnB ps b
      · exact .inr c1
      · by_cases c2 : PtrB ps b
        · obtain ⟨k, hk⟩ := ptrTok b c2
          rw [hk] at ht; cases ht
        · rcases hS.frow b hlt ⟨c1, c2⟩ with e | e <;> rw [ht] at e <;> cases e
    · exact .inl hge
  have post : PPost w ps outs w' ((List.range ps.length).map pst) Sr := by
    refine ⟨by simp, ?_, ?_, ?_, ?_, ?_, ?_, ⟨k3 hd1, ?_⟩, ?_, hS.frame, ?_⟩
    · intro k p p' hp hp'
      obtain ⟨q, r, i1, i2, i3, i4, i5, i6, i7, i8, _⟩ := info k p' hp'
      rw [hp] at i1; cases i1
      exact ⟨i5, i6, i7, i8⟩
    · intro q' hq
      obtain ⟨k, hk⟩ := mem q' hq
      obtain ⟨q, r, i1, i2, i3, i4, i5, i6, i7, i8, i9, _⟩ := info k q' hk
      obtain ⟨f1, f2⟩ := meta_ i3
      obtain ⟨b', off', cur, ty, z1, z2, z3, z4, z5⟩ := hS.boxes r _ f2
      rw [f1] at z1; cases z1
      exact ⟨cur, ty, by rw [i5]; exact z3, fun j hj => by rw [i6, i9]; exact z5 j (by omega)⟩
    · intro q' hq j l e
      obtain ⟨k, hk⟩ := mem q' hq
      obtain ⟨q, r, i1, i2, i3, i4, i5, i6, i7, i8, i9, i10, i11⟩ := info k q' hk
      obtain ⟨hv, m1, m2, _⟩ := i11 j _ e
      have := hS.hok (gl_some.2 m1)
      simp only [HOk, m2] at this
      rw [i9, i10 j l e]; exact ⟨this.1, this.2.1⟩
    · intro k p p' j l hp hp' e
      obtain ⟨q, r, i1, i2, i3, i4, i5, i6, i7, i8, i9, i10, i11⟩ := info k p' hp'
      rw [hp] at i1; cases i1
      obtain ⟨hv, m1, m2, m3, m4⟩ := i11 j _ e
      refine ⟨m3, ?_⟩
      rw [i9, hS.anc r j hv (gl_some.2 m1) _ m4 ⟨l, .inr m2⟩]
      exact hanc r p j l i3 m3
    · intro q' hq j e
      obtain ⟨k, hk⟩ := mem q' hq
      obtain ⟨q, r, i1, i2, i3, i4, i5, i6, i7, i8, i9, i10, i11⟩ := info k q' hk
      obtain ⟨hv, m1, m2, m3⟩ := i11 j _ e
      exact m3
    · intro k j k' j' p p' l l' hp hp' e e' hne b hb hb'
      obtain ⟨q, r, i1, i2, i3, i4, i5, i6, i7, i8, i9, i10, i11⟩ := info k p hp
      obtain ⟨q2, r2, i1', i2', i3', i4', i5', i6', i7', i8', i9', i10', i11'⟩ := info k' p' hp'
      obtain ⟨hv, m1, m2, _⟩ := i11 j _ e
      obtain ⟨hv', m1', m2', _⟩ := i11' j' _ e'
      rw [i10 j l e] at hb
      rw [i10' j' l' e'] at hb'
      have t1 := hS.hok (gl_some.2 m1)
      simp only [HOk, m2] at t1
      have t2 := hS.hok (gl_some.2 m1')
      simp only [HOk, m2'] at t2
      have u1 := (t1.2.2 b hb).1
      have u2 := (t2.2.2 b hb').1
      rw [u1] at u2; cases u2
      have hkk : k = k' := by
        rw [i3] at i3'; cases i3'
        by_cases c : k = k'
        · exact c
        · have := hpre.sep k k' q q c i1 i1' rfl
          have := (List.getElem?_eq_some_iff.1 e).1
          omega
      subst hkk
      exact hne rfl
    · intro b hb ho
      obtain ⟨r, j, q, e1, e2, _⟩ := ownTok b ho
      obtain ⟨_, r', j', m1, m2⟩ := k4 b hb
      rw [m2] at e2; cases e2
      obtain ⟨k, e3, _⟩ := ix.1 e1
      have := List.all_eq_true.1 (List.all_eq_true.1 hd2 _ m1) _ (List.mem_of_getElem? e3)
      simp at this
    · intro b hb
      rcases hb with hb | hb
      · obtain ⟨hu, r, j, _, m2⟩ := k4 b hb; exact own b r j hu m2
      · obtain ⟨r, j, q, _, m2, hu⟩ := ownTok b hb; exact own b r j hu m2
    · rintro b ⟨q, hq, rfl⟩
      obtain ⟨k, hk⟩ := List.getElem?_of_mem hq
      obtain ⟨r, hr⟩ := mpL_of (p := 0) hpre.args hk
      have hpa := ix.2 ⟨k, hr, hk⟩
      obtain ⟨c0, c1, ty, z1, z2, z3, z4⟩ := hS.afr r q.b q.off (by simp [hpa])
      refine ⟨c0, c1, ty, z1, z2, z3, fun i hi => z4 i (fun r' off' e => ?_)⟩
      cases e0 : pAt 0 ds ps r' with
      | none => simp [e0] at e
      | some q2 =>
        simp [e0] at e ⊢
        obtain ⟨e1, rfl⟩ := e
        obtain ⟨k2, _, hk2⟩ := ix.1 e0
        exact hi q2 (List.mem_of_getElem? hk2) e1
  have fin : a'.defers = [] ∧ ∃ v, (results fn a'.tmps).run P w' = .ok v w' ∧ ∃ v' Sr ps', Ending.returned v = .returned v' ∧ RdRes w' ds' v' Sr ∧ PPost w ps outs w' ps' Sr :=
    ⟨hS.defers, _, hrun, _, Sr, _, rfl, hres, post⟩
  rcases hex with rfl | rfl
  · exact fin
  · exact fin
end
end Go.V

/-
  The value-level condition generator, part 43: what is left of a condition, in plain words.
-/
namespace Go.V

theorem SS : (∀ a b : Int, (cmpI .eql a b = true) ↔ a = b) ∧ (∀ a b : Int, (cmpI .eql a b = false) ↔ a ≠ b) ∧ (∀ a b : Int, (cmpI .neq a b = true) ↔ a ≠ b) ∧ (∀ a b : Int, (cmpI .neq a b = false) ↔ a = b) ∧
    (∀ a b : Int, (cmpI .lss a b = true) ↔ a < b) ∧ (∀ a b : Int, (cmpI .lss a b = false) ↔ b ≤ a) ∧ (∀ a b : Int, (cmpI .leq a b = true) ↔ a ≤ b) ∧ (∀ a b : Int, (cmpI .leq a b = false) ↔ b < a) ∧
    (∀ a b : Int, (cmpI .gtr a b = true) ↔ b < a) ∧ (∀ a b : Int, (cmpI .gtr a b = false) ↔ a ≤ b) ∧ (∀ a b : Int, (cmpI .geq a b = true) ↔ b ≤ a) ∧ (∀ a b : Int, (cmpI .geq a b = false) ↔ a < b) ∧
    (∀ b, (bnI b = true) ↔ b = false) ∧ (∀ b, (bnI b = false) ↔ b = true) ∧ (∀ a b, selI true a b = a) ∧ (∀ a b, selI false a b = b) ∧
    (∀ a b, (bqI .eql a b = true) ↔ a = b) ∧ (∀ a b, (bqI .eql a b = false) ↔ a ≠ b) ∧ (∀ a b, (bqI .neq a b = true) ↔ a ≠ b) ∧ (∀ a b, (bqI .neq a b = false) ↔ a = b) ∧
    (∀ n, ziI n = (n : Int)) ∧ (∀ es, lnI es = es.length) ∧ (∀ f, prI f = f ()) ∧ (∀ n : Nat, Int.ofNat n = (n : Int)) ∧ (∀ a b, catI a b = a ++ b) ∧ (∀ i, nnI i = i.toNat) :=
  ⟨fun _ _ => c_eql_t, fun _ _ => c_eql_f, fun _ _ => c_neq_t, fun _ _ => c_neq_f, fun _ _ => c_lss_t, fun _ _ => c_lss_f, fun _ _ => c_leq_t, fun _ _ => c_leq_f, fun _ _ => c_gtr_t, fun _ _ => c_gtr_f, fun _ _ => c_geq_t, fun _ _ => c_geq_f,
    fun _ => bn_t, fun _ => bn_f, fun _ _ => rfl, fun _ _ => rfl, fun _ _ => bq_eql_t, fun _ _ => bq_eql_f, fun _ _ => bq_neq_t, fun _ _ => bq_neq_f, fun _ => rfl, fun _ => rfl, fun _ => rfl, fun _ => rfl, fun _ _ => rfl, fun _ => rfl⟩
end Go.V

/-
  Trees of data: their size, marks written into all their rows.
-/
namespace Go.V

mutual
def cntL : L → Nat
  | .s _ es => es.length + cntEs es
  | _ => 0
def cntR : (List L) → Nat
  | [] => 0
  | l :: ls => cntL l + cntR ls
def cntEs : List (List L) → Nat
  | [] => 0
  | e :: es => cntR e + cntEs es
end
/-- The size of a row: its elements, and what lies below. -/
def cntE (es : List (List L)) : Nat := es.length + cntEs es
def cntRs : List (List (List L)) → Nat
  | [] => 0
  | r :: rs => cntE r + cntRs rs
def szN0 (rs : List (List (List L))) (left : Int) : Int := if left < cntRs rs then -1 else left - cntRs rs

mutual
/-- Marks from k on; the mark behind. -/
def msL : L → Int → L × Int
  | .v (.int kd _), k => (.v (.int kd k), k + 1)
  | .v (.bool _), k => (.v (.bool (k.tmod 3 == 0)), k + 1)
  | .s sz es, k => (.s sz (msEs es k).1, (msEs es k).2)
  | l, k => (l, k)
def msR : (List L) → Int → (List L) × Int
  | [], k => ([], k)
  | l :: ls, k => ((msL l k).1 :: (msR ls (msL l k).2).1, (msR ls (msL l k).2).2)
def msEs : List (List L) → Int → List (List L) × Int
  | [], k => ([], k)
  | e :: es, k => ((msR e k).1 :: (msEs es (msR e k).2).1, (msEs es (msR e k).2).2)
end
def mkN0 (es : List (List L)) (k : Int) : List (List L) := (msEs es k).1
def kN0 : List (List (List L)) → Int → Int
  | [], k => k
  | r :: rs, k => kN0 rs (msEs r k).2

theorem cntEs_append : ∀ {a b : List (List L)}, cntEs (a ++ b) = cntEs a + cntEs b
  | [], b => by simp [cntEs]
  | e :: a, b => by simp [cntEs, cntEs_append (a := a), Nat.add_assoc]
theorem cntRs_append : ∀ {a b : List (List (List L))}, cntRs (a ++ b) = cntRs a + cntRs b
  | [], b => by simp [cntRs]
  | e :: a, b => by simp [cntRs, cntRs_append (a := a), Nat.add_assoc]
theorem cntRs_one {r : List (List L)} : cntRs [r] = cntE r := by simp [cntRs]
theorem cntEs_at : ∀ {es : List (List L)} {n : Nat} {e : (List L)}, es[n]? = some e → cntEs (es.take n) + cntR e + cntEs (es.drop (n + 1)) = cntEs es
  | [], n, e, h => by simp at h
  | x :: es, 0, e, h => by simp at h; subst h; simp [cntEs]
  | x :: es, n + 1, e, h => by simp at h; have := cntEs_at h; simp [cntEs]; omega
theorem cntR_at : ∀ {ls : (List L)} {j : Nat} {l : L}, ls[j]? = some l → cntL l ≤ cntR ls
  | [], j, l, h => by simp at h
  | x :: ls, 0, l, h => by simp at h; subst h; simp [cntR]
  | x :: ls, j + 1, l, h => by simp at h; have := cntR_at h; simp [cntR]; omega

/-! ### Sizes -/
theorem szN_neg {a : List (List (List L))} {left : Int} : szN0 a left < 0 ↔ left < cntRs a := by
  unfold szN0; split <;> omega
theorem szN_pos {a : List (List (List L))} {left : Int} (h : 0 ≤ szN0 a left) : szN0 a left = left - cntRs a := by
  unfold szN0 at *; split at h
  · omega
  · rename_i c; rw [if_neg c]
theorem szN_app {a b : List (List (List L))} {left : Int} (h : 0 ≤ szN0 a left) : szN0 b (szN0 a left) = szN0 (a ++ b) left := by
  rw [szN_pos h]; unfold szN0; rw [cntRs_append]; split <;> split <;> omega
theorem szN_more {a b : List (List (List L))} {left : Int} (h : szN0 a left < 0) : szN0 (a ++ b) left = -1 := by
  rw [szN_neg] at h; unfold szN0; rw [cntRs_append, if_pos (by omega)]
theorem szN_neg1 {a : List (List (List L))} {left : Int} (h : szN0 a left < 0) : szN0 a left = -1 := by
  rw [szN_neg] at h; unfold szN0; rw [if_pos (by omega)]
theorem szN_le {a : List (List (List L))} {left : Int} (h : 0 ≤ szN0 a left) : szN0 a left ≤ left := by rw [szN_pos h]; omega

/-! ### Marks -/
theorem msEs_append : ∀ {a b : List (List L)} {k : Int}, msEs (a ++ b) k = ((msEs a k).1 ++ (msEs b (msEs a k).2).1, (msEs b (msEs a k).2).2)
  | [], b, k => by simp [msEs]
  | e :: a, b, k => by simp [msEs, msEs_append (a := a)]
theorem kN_app : ∀ {a b : List (List (List L))} {k : Int}, kN0 b (kN0 a k) = kN0 (a ++ b) k
  | [], b, k => rfl
  | r :: a, b, k => by simp only [kN0, List.cons_append]; exact kN_app
theorem kN_one {r : List (List L)} {k : Int} : kN0 [r] k = (msEs r k).2 := rfl
theorem msEs_length : ∀ {es : List (List L)} {k : Int}, (msEs es k).1.length = es.length
  | [], k => rfl
  | e :: es, k => by simp [msEs, msEs_length (es := es)]
theorem msR_length : ∀ {ls : (List L)} {k : Int}, (msR ls k).1.length = ls.length
  | [], k => rfl
  | e :: es, k => by simp [msR, msR_length (ls := es)]
theorem mkN_length {es : List (List L)} {k : Int} : (mkN0 es k).length = es.length := msEs_length
/-- The first n elements marked. -/
def mkTo (es : List (List L)) (k : Int) (n : Nat) : List (List L) := (msEs (es.take n) k).1 ++ es.drop n
def kTo (es : List (List L)) (k : Int) (n : Nat) : Int := (msEs (es.take n) k).2
theorem mkTo_zero {es : List (List L)} {k : Int} : mkTo es k 0 = es := by simp [mkTo, msEs]
theorem kTo_zero {es : List (List L)} {k : Int} : kTo es k 0 = k := by simp [kTo, msEs]
theorem mkTo_all {es : List (List L)} {k : Int} : mkTo es k es.length = mkN0 es k := by simp [mkTo, mkN0]
theorem kTo_all {es : List (List L)} {k : Int} : kTo es k es.length = kN0 [es] k := by simp [kTo, kN0]
theorem mkTo_length {es : List (List L)} {k : Int} {n : Nat} (hn : n ≤ es.length) : (mkTo es k n).length = es.length := by simp [mkTo, msEs_length]; omega
theorem mkTo_getD {es : List (List L)} {k : Int} {n : Nat} (hn : n ≤ es.length) : (mkTo es k n).getD n [] = es.getD n [] := by
  unfold mkTo
  simp only [List.getD_eq_getElem?_getD]
  have hl : (msEs (es.take n) k).1.length = n := by rw [msEs_length, List.length_take]; omega
  rw [List.getElem?_append_right (by omega), hl]
  simp
theorem mkTo_set {es : List (List L)} {k : Int} {n : Nat} (hn : n < es.length) : (mkTo es k n).set n (msR (es.getD n []) (kTo es k n)).1 = mkTo es k (n + 1) := by
  unfold mkTo kTo
  have hl : (msEs (es.take n) k).1.length = n := by rw [msEs_length, List.length_take]; omega
  rw [List.set_append_right _ _ (by omega), hl, getD_take_succ (d := []) hn, msEs_append]
  simp only [Nat.sub_self]
  rw [List.drop_eq_getElem_cons hn, List.set_cons_zero]
  simp [msEs]
theorem kTo_succ {es : List (List L)} {k : Int} {n : Nat} (hn : n < es.length) : kTo es k (n + 1) = (msR (es.getD n []) (kTo es k n)).2 := by
  unfold kTo
  rw [getD_take_succ (d := []) hn, msEs_append]
  simp [msEs]
theorem mkN_at {es : List (List L)} {k : Int} {n : Nat} (hn : n < es.length) : (mkN0 es k).getD n [] = (msR (es.getD n []) (kTo es k n)).1 := by
  have h1 : es = es.take n ++ (es.getD n [] :: es.drop (n + 1)) := by
    conv => lhs; rw [← List.take_append_drop n es, List.drop_eq_getElem_cons hn]
    simp [List.getD, hn]
  unfold mkN0 kTo
  conv => lhs; rw [h1]
  rw [msEs_append]
  simp only [List.getD_eq_getElem?_getD]
  have hl : (msEs (es.take n) k).1.length = n := by rw [msEs_length, List.length_take]; omega
  rw [List.getElem?_append_right (by omega), hl]
  simp [msEs]

mutual
/-- Marks don't change sizes. -/
theorem cntL_mk : ∀ (l : L) (k : Int), cntL (msL l k).1 = cntL l
  | .v x, k => by cases x <;> simp [msL, cntL]
  | .s sz es, k => by simp only [msL, cntL]; rw [msEs_length, cntEs_mk es k]
  | .g, k => by simp [msL, cntL]
theorem cntR_mk : ∀ (ls : (List L)) (k : Int), cntR (msR ls k).1 = cntR ls
  | [], k => rfl
  | l :: ls, k => by simp only [msR, cntR]; rw [cntL_mk l k, cntR_mk ls _]
theorem cntEs_mk : ∀ (es : List (List L)) (k : Int), cntEs (msEs es k).1 = cntEs es
  | [], k => rfl
  | e :: es, k => by simp only [msEs, cntEs]; rw [cntR_mk e k, cntEs_mk es _]
end
mutual
/-- The mark behind: by the tree alone. -/
theorem msL_k : ∀ (l : L) (k : Int), (msL l k).2 = k + (msL l 0).2
  | .v x, k => by cases x <;> simp [msL]
  | .s sz es, k => by simp only [msL]; exact msEs_k es k
  | .g, k => by simp [msL]
theorem msR_k : ∀ (ls : (List L)) (k : Int), (msR ls k).2 = k + (msR ls 0).2
  | [], k => by simp [msR]
  | l :: ls, k => by
    simp only [msR]
    rw [msR_k ls (msL l k).2, msL_k l k, msR_k ls (msL l 0).2]; omega
theorem msEs_k : ∀ (es : List (List L)) (k : Int), (msEs es k).2 = k + (msEs es 0).2
  | [], k => by simp [msEs]
  | e :: es, k => by
    simp only [msEs]
    rw [msEs_k es (msR e k).2, msR_k e k, msEs_k es (msR e 0).2]; omega
end
mutual
/-- Marked again: the same marks. -/
theorem msL_mk : ∀ (l : L) (k k' : Int), (msL (msL l k).1 k').2 = (msL l k').2
  | .v x, k, k' => by cases x <;> simp [msL]
  | .s sz es, k, k' => by simp only [msL]; exact msEs_mk es k k'
  | .g, k, k' => by simp [msL]
theorem msR_mk : ∀ (ls : (List L)) (k k' : Int), (msR (msR ls k).1 k').2 = (msR ls k').2
  | [], k, k' => rfl
  | l :: ls, k, k' => by simp only [msR]; rw [msR_mk ls _ _, msL_mk l k k']
theorem msEs_mk : ∀ (es : List (List L)) (k k' : Int), (msEs (msEs es k).1 k').2 = (msEs es k').2
  | [], k, k' => rfl
  | e :: es, k, k' => by simp only [msEs]; rw [msEs_mk es _ _, msR_mk e k k']
end
theorem kN_mk {es : List (List L)} {k k' : Int} : kN0 [mkN0 es k] k' = kN0 [es] k' := msEs_mk es k k'
theorem kTo_k {es : List (List L)} {k : Int} {n : Nat} : kTo es k n = k + kTo es 0 n := msEs_k _ _
theorem kN_k : ∀ {rs : List (List (List L))} {k : Int}, kN0 rs k = k + kN0 rs 0
  | [], k => by simp [kN0]
  | r :: rs, k => by simp only [kN0]; rw [kN_k (k := (msEs r k).2), msEs_k r k, kN_k (k := (msEs r 0).2)]; omega
mutual
theorem msL_0 : ∀ (l : L), 0 ≤ (msL l 0).2
  | .v x => by cases x <;> simp [msL]
  | .s sz es => by simp only [msL]; exact msEs_0 es
  | .g => by simp [msL]
theorem msR_0 : ∀ (ls : (List L)), 0 ≤ (msR ls 0).2
  | [] => by simp [msR]
  | l :: ls => by simp only [msR]; rw [msR_k]; have := msL_0 l; have := msR_0 ls; omega
theorem msEs_0 : ∀ (es : List (List L)), 0 ≤ (msEs es 0).2
  | [] => by simp [msEs]
  | e :: es => by simp only [msEs]; rw [msEs_k]; have := msR_0 e; have := msEs_0 es; omega
end
theorem kN_0 : ∀ {rs : List (List (List L))}, 0 ≤ kN0 rs 0
  | [] => by simp [kN0]
  | r :: rs => by simp only [kN0]; rw [kN_k]; have := msEs_0 r; have := kN_0 (rs := rs); omega
theorem kTo_mono {es : List (List L)} {n : Nat} (hn : n < es.length) : kTo es 0 n ≤ kTo es 0 (n + 1) := by
  rw [kTo_succ hn, msR_k]; have := msR_0 (es.getD n []); omega
theorem kTo_le {es : List (List L)} : ∀ {m n : Nat}, n ≤ es.length → m ≤ n → kTo es 0 m ≤ kTo es 0 n
  | m, 0, _, h => by rw [show m = 0 from by omega]; exact Int.le_refl _
  | m, n + 1, hn, h => by
    rcases Nat.lt_or_ge m (n + 1) with c | c
    · have := kTo_le (es := es) (m := m) (n := n) (by omega) (by omega)
      have := kTo_mono (es := es) (n := n) (by omega)
      omega
    · rw [show m = n + 1 from by omega]; exact Int.le_refl _

/-! ### Marks are few -/
def wid : Ty → Nat
  | .sl _ => 0
  | _ => 1
mutual
/-- How many marks an element's cells take at most, but for its rows. -/
def mcL : L → Int
  | .s _ es => mcEs es
  | _ => 1
def mcR : (List L) → Int
  | [] => 0
  | l :: ls => mcL l + mcR ls
def mcEs : List (List L) → Int
  | [] => 0
  | e :: es => mcR e + mcEs es
end
mutual
theorem msL_mc : ∀ (l : L), (msL l 0).2 ≤ mcL l
  | .v x => by cases x <;> simp [msL, mcL]
  | .s sz es => by simp only [msL, mcL]; exact msEs_mc es
  | .g => by simp [msL, mcL]
theorem msR_mc : ∀ (ls : (List L)), (msR ls 0).2 ≤ mcR ls
  | [] => by simp [msR, mcR]
  | l :: ls => by simp only [msR, mcR]; rw [msR_k]; have := msL_mc l; have := msR_mc ls; omega
theorem msEs_mc : ∀ (es : List (List L)), (msEs es 0).2 ≤ mcEs es
  | [] => by simp [msEs, mcEs]
  | e :: es => by simp only [msEs, mcEs]; rw [msEs_k]; have := msR_mc e; have := msEs_mc es; omega
end
end Go.V

/-
  Rows of well-formed records; cells of rows that are written.
-/
namespace Go.V

/-- A row whose elements are of a form. -/
abbrev Rw (fs : List Ty) (es : List (List L)) : Prop := es.length ≤ maxLen ∧ ∀ e ∈ es, confR fs e
abbrev tI : Ty := .int .i64
abbrev tB : Ty := .bool
mutual
def zL : Ty → L
  | .int k => .v (.int k 0)
  | .bool => .v (.bool false)
  | .str => .v (.string .empty)
  | .sl fs => .s fs.length []
def zR : List Ty → (List L)
  | [] => []
  | t :: ts => zL t :: zR ts
end
theorem conf_fit : ∀ {fs : List Ty} {e : (List L)}, confR fs e → fitZ (zR fs) e = true
  | [], [], _ => rfl
  | [], _ :: _, h => h.elim
  | _ :: _, [], h => h.elim
  | t :: ts, l :: ls, h => by
    obtain ⟨h1, h2⟩ := h
    simp only [zR, fitZ, Bool.and_eq_true]
    refine ⟨?_, conf_fit h2⟩
    cases t with
    | int k => cases l with
      | v x => cases x with
        | int k' n => simp only [confL] at h1; simp [zL, fitL, h1.1]
        | _ => simp [confL] at h1
      | _ => simp [confL] at h1
    | bool => cases l with
      | v x => cases x with
        | bool b => rfl
        | _ => simp [confL] at h1
      | _ => simp [confL] at h1
    | str => cases l with
      | v x => cases x with
        | string b => rfl
        | _ => simp [confL] at h1
      | _ => simp [confL] at h1
    | sl fs => cases l with
      | s sz es => simp only [confL] at h1; simp [zL, fitL, h1.1]
      | _ => simp [confL] at h1
theorem Rw.wf {fs : List Ty} {es : List (List L)} (h : Rw fs es) : Wf (zR fs) es := fun e he => conf_fit (h.2 e he)
theorem Rw.at {fs : List Ty} {es : List (List L)} (h : Rw fs es) {n : Nat} (hn : n < es.length) : confR fs (es.getD n []) := by
  refine h.2 _ ?_
  rw [List.getD_eq_getElem?_getD, List.getElem?_eq_getElem hn]; exact List.getElem_mem _
theorem Rw.eta {fs : List Ty} {es : List (List L)} (h : Rw fs es) {i : Int} (h0 : 0 ≤ i) (h1 : i < es.length) : es.getD i.toNat [] = etaE stdO es i 0 (zR fs) := (etaE_whole h.wf h0 h1).symm
theorem confR_sub : ∀ {fs : List Ty} {e : (List L)} {j : Nat} {gs : List Ty}, confR fs e → fs[j]? = some (.sl gs) → ∃ es', e[j]? = some (.s gs.length es') ∧ Rw gs es'
  | [], _, j, gs, _, h => by simp at h
  | _ :: _, [], j, gs, h, _ => h.elim
  | t :: ts, l :: ls, 0, gs, h, e => by
    simp at e; subst e
    have h1 := h.1
    cases l with
    | s sz es => simp only [confL] at h1; exact ⟨es, by simp [h1.1], h1.2⟩
    | _ => simp [confL] at h1
  | t :: ts, l :: ls, j + 1, gs, h, e => by
    simp at e
    obtain ⟨es', h1, h2⟩ := confR_sub h.2 e
    exact ⟨es', by simpa using h1, h2⟩
theorem Rw.sub {fs : List Ty} {es : List (List L)} (h : Rw fs es) {i : Int} (hn : i.toNat < es.length) {j : Nat} {gs : List Ty} (hj : fs[j]? = some (.sl gs)) : Rw gs (gsI es i j) := by
  obtain ⟨es', h1, h2⟩ := confR_sub (h.at hn) hj
  unfold gsI
  rw [List.getD_eq_getElem?_getD (l := es.getD i.toNat []), h1]
  exact h2
theorem Rw.nil {fs : List Ty} : Rw fs [] := ⟨Nat.zero_le _, by simp⟩
theorem Rw.take {fs : List Ty} {es : List (List L)} (h : Rw fs es) (n : Nat) : Rw fs (es.take n) := ⟨by rw [List.length_take]; exact Nat.le_trans (Nat.min_le_right _ _) h.1, fun e he => h.2 e (List.mem_of_mem_take he)⟩
theorem Rw.drop {fs : List Ty} {es : List (List L)} (h : Rw fs es) (n : Nat) : Rw fs (es.drop n) := ⟨by rw [List.length_drop]; exact Nat.le_trans (Nat.sub_le _ _) h.1, fun e he => h.2 e (List.mem_of_mem_drop he)⟩
theorem Rw.append {fs : List Ty} {a b : List (List L)} (ha : Rw fs a) (hb : Rw fs b) (hl : a.length + b.length ≤ maxLen) : Rw fs (a ++ b) := ⟨by simpa using hl, fun e he => by rcases List.mem_append.1 he with q | q; exact ha.2 e q; exact hb.2 e q⟩
theorem Rw.one {fs : List Ty} {e : (List L)} (h : confR fs e) : Rw fs [e] := ⟨by simp [maxLen], by simpa using h⟩
theorem Rw.set {fs : List Ty} {es : List (List L)} (h : Rw fs es) {e : (List L)} (he : confR fs e) (n : Nat) : Rw fs (es.set n e) := ⟨by simpa using h.1, fun x hx => by rcases List.mem_or_eq_of_mem_set hx with q | q; exact h.2 x q; rw [q]; exact he⟩
theorem Rw.replicate {fs : List Ty} {e : (List L)} (h : confR fs e) {n : Nat} (hn : n ≤ maxLen) : Rw fs (List.replicate n e) := ⟨by simpa using hn, fun x hx => by rw [List.eq_of_mem_replicate hx]; exact h⟩

def tyScal : Ty → Bool
  | .sl _ => false
  | _ => true
theorem confL_scal {t : Ty} {l : L} (h : confL t l) (hs : tyScal t = true) : ∃ x, l = .v x := by
  cases t with
  | sl fs => cases hs
  | int k => cases l with
    | v x => exact ⟨x, rfl⟩
    | _ => simp [confL] at h
  | bool => cases l with
    | v x => exact ⟨x, rfl⟩
    | _ => simp [confL] at h
  | str => cases l with
    | v x => exact ⟨x, rfl⟩
    | _ => simp [confL] at h
theorem flat_cntR : ∀ {fs : List Ty} {e : (List L)}, fs.all tyScal = true → confR fs e → cntR e = 0
  | [], [], _, _ => rfl
  | [], _ :: _, _, h => h.elim
  | _ :: _, [], _, h => h.elim
  | t :: ts, l :: ls, hs, h => by
    simp only [List.all_cons, Bool.and_eq_true] at hs
    obtain ⟨x, rfl⟩ := confL_scal h.1 hs.1
    simp only [cntR, cntL]; rw [flat_cntR hs.2 h.2]
theorem flat_cnt {fs : List Ty} (hs : fs.all tyScal = true) : ∀ {es : List (List L)}, (∀ e ∈ es, confR fs e) → cntEs es = 0
  | [], _ => rfl
  | e :: es, h => by simp only [cntEs]; rw [flat_cntR hs (h e (by simp)), flat_cnt hs (fun x hx => h x (by simp [hx]))]
theorem Rw.cnt {fs : List Ty} {es : List (List L)} (h : Rw fs es) (hs : fs.all tyScal = true) : cntE es = es.length := by unfold cntE; rw [flat_cnt hs h.2]; rfl
theorem Rw.scal {fs : List Ty} {es : List (List L)} (h : Rw fs es) (hs : fs.all tyScal = true) : scalRecs es := by
  have key : ∀ {fs : List Ty} {e : (List L)}, fs.all tyScal = true → confR fs e → scalRec e := by
    intro fs
    induction fs with
    | nil => intro e _ h; cases e with
      | nil => trivial
      | cons _ _ => exact h.elim
    | cons t ts ih =>
      intro e hs h
      cases e with
      | nil => exact h.elim
      | cons l ls =>
        simp only [List.all_cons, Bool.and_eq_true] at hs
        obtain ⟨x, rfl⟩ := confL_scal h.1 hs.1
        exact (ih hs.2 h.2 : scalRec ls)
  have : ∀ {es : List (List L)}, (∀ e ∈ es, confR fs e) → scalRecs es := by
    intro es
    induction es with
    | nil => intro _; trivial
    | cons e es ih => intro h; exact ⟨key hs (h e (by simp)), ih (fun x hx => h x (by simp [hx]))⟩
  exact this h.2
theorem cntE_at {es : List (List L)} {n : Nat} (hn : n < es.length) : cntEs (es.take (n + 1)) = cntEs (es.take n) + cntR (es.getD n []) := by
  rw [getD_take_succ (d := []) hn, cntEs_append]; simp [cntEs]
theorem cntEs_take_le {es : List (List L)} {n : Nat} : cntEs (es.take n) ≤ cntEs es := by
  conv => rhs; rw [← List.take_append_drop n es, cntEs_append]
  omega
theorem cntE_nil : cntE [] = 0 := rfl

/-! ### Cells that are written -/
theorem upI_cell {sz : Nat} {es : List (List L)} {n o : Nat} {new : (List L)} : upI (.s sz es) [(n, o)] new = es.set n ((es.getD n []).take o ++ new ++ (es.getD n []).drop (o + new.length)) := rfl
theorem psI_one {sz : Nat} {c : List (List L)} {n j : Nat} : psI (.s sz c) [(n, j)] = lfS ((c.getD n []).getD j .g) := by
  unfold psI getS
  simp only [getR]
  cases h : c[n]? with
  | none => simp [List.getD, h, lfS]
  | some rec =>
    simp only [Option.map_some, List.getD, h, Option.getD_some]
    cases h2 : rec[j]? with
    | none => simp [lfS]
    | some l => cases l <;> simp [lfS]
theorem getD_set_same {c : List (List L)} {n : Nat} {r : (List L)} (h : n < c.length) : (c.set n r).getD n [] = r := by simp [List.getD, h]
theorem getR_set {sz : Nat} {c : List (List L)} {n j : Nat} {r : (List L)} (h : n < c.length) : getR (.s sz (c.set n r)) [(n, j)] = some (r, j) := by simp [getR, h]
theorem getR_at {sz : Nat} {c : List (List L)} {n j : Nat} (h : n < c.length) : getR (.s sz c) [(n, j)] = some (c.getD n [], j) := by simp [getR, List.getD, h]
theorem getS_set {sz : Nat} {c : List (List L)} {n j : Nat} {r : (List L)} (h : n < c.length) : getS (.s sz (c.set n r)) [(n, j)] = match r[j]? with
    | some (.s sz es) => some (sz, es)
    | _ => none := by unfold getS; rw [getR_set h]; rfl
theorem getS_at {sz : Nat} {c : List (List L)} {n j : Nat} (h : n < c.length) : getS (.s sz c) [(n, j)] = match (c.getD n [])[j]? with
    | some (.s sz es) => some (sz, es)
    | _ => none := by unfold getS; rw [getR_at h]; rfl
theorem kN_pre {a b : List (List (List L))} {k : Int} (hk : 0 ≤ k) : kN0 a k ≤ kN0 (a ++ b) k ∧ 0 ≤ kN0 a k := by
  rw [← kN_app, kN_k (rs := b), kN_k (rs := a)]
  have := kN_0 (rs := a); have := kN_0 (rs := b); omega
theorem fit_msL {l : L} {k : Int} {z : L} (h : fitL z l = true) : fitL z (msL l k).1 = true := by
  cases l with
  | v x => cases x <;> cases z <;> simp_all [msL, fitL] <;> (rename_i y; cases y <;> simp_all [fitL])
  | s sz es => cases z <;> simp_all [msL, fitL]
  | g => exact h
theorem fit_msR : ∀ {z e : (List L)} {k : Int}, fitZ z e = true → fitZ z (msR e k).1 = true
  | [], [], _, _ => rfl
  | [], _ :: _, _, h => by simp [fitZ] at h
  | _ :: _, [], _, h => by simp [fitZ] at h
  | z :: zs, l :: ls, k, h => by
    simp only [fitZ, Bool.and_eq_true, msR] at h ⊢
    exact ⟨fit_msL h.1, fit_msR h.2⟩
theorem fit_msEs : ∀ {z : (List L)} {es : List (List L)} {k : Int}, Wf z es → Wf z (msEs es k).1
  | z, [], _, _ => fun e he => by cases he
  | z, e :: es, k, h => by
    intro x hx
    simp only [msEs, List.mem_cons] at hx
    rcases hx with rfl | hx
    · exact fit_msR (h e (by simp))
    · exact fit_msEs (fun y hy => h y (by simp [hy])) x hx
theorem conf_mk_wf {fs : List Ty} {es : List (List L)} {k : Int} (h : Rw fs es) : Wf (zR fs) (mkN0 es k) := fit_msEs h.wf

end Go.V

/-
  Marks are few; what the laws ask of rows.
-/
namespace Go.V

mutual
def twL : Ty → Nat
  | .sl fs => twR fs
  | _ => 1
def twR : List Ty → Nat
  | [] => 0
  | t :: ts => twL t + twR ts
end
theorem cntR_le_cons {l : L} {ls : (List L)} : cntR ls ≤ cntR (l :: ls) := by simp [cntR]
mutual
theorem marksL : ∀ (t : Ty) (l : L), confL t l → (msL l 0).2 ≤ (twL t * (cntL l + 1) : Nat)
  | .int k, .v x, h => by cases x <;> simp [msL, cntL, twL]
  | .int k, .s _ _, h => by simp [confL] at h
  | .int k, .g, h => by simp [confL] at h
  | .bool, .v x, h => by cases x <;> simp [msL, cntL, twL]
  | .bool, .s _ _, h => by simp [confL] at h
  | .bool, .g, h => by simp [confL] at h
  | .str, .v x, h => by cases x <;> simp [msL, cntL, twL]
  | .str, .s _ _, h => by simp [confL] at h
  | .str, .g, h => by simp [confL] at h
  | .sl fs, .v x, h => by simp [confL] at h
  | .sl fs, .g, h => by simp [confL] at h
  | .sl fs, .s sz es, h => by
    have h1 := marksEs fs es (by simp only [confL] at h; exact h.2.2)
    simp only [msL, cntL, twL]
    have : twR fs * (es.length + cntEs es) ≤ twR fs * (es.length + cntEs es + 1) := Nat.mul_le_mul_left _ (by omega)
    omega
theorem marksR : ∀ (ts : List Ty) (ls : (List L)), confR ts ls → (msR ls 0).2 ≤ (twR ts * (cntR ls + 1) : Nat)
  | [], [], _ => by simp only [msR]; exact Int.natCast_nonneg _
  | [], _ :: _, h => h.elim
  | _ :: _, [], h => h.elim
  | t :: ts, l :: ls, h => by
    have h1 := marksL t l h.1
    have h2 := marksR ts ls h.2
    simp only [msR]
    rw [msR_k]
    have e1 : twL t * (cntL l + 1) ≤ twL t * (cntR (l :: ls) + 1) := Nat.mul_le_mul_left _ (by simp [cntR])
    have e2 : twR ts * (cntR ls + 1) ≤ twR ts * (cntR (l :: ls) + 1) := Nat.mul_le_mul_left _ (by simp [cntR])
    have e3 : twR (t :: ts) * (cntR (l :: ls) + 1) = twL t * (cntR (l :: ls) + 1) + twR ts * (cntR (l :: ls) + 1) := by simp only [twR]; rw [Nat.add_mul]
    omega
theorem marksEs : ∀ (ts : List Ty) (es : List (List L)), (∀ e ∈ es, confR ts e) → (msEs es 0).2 ≤ (twR ts * (es.length + cntEs es) : Nat)
  | ts, [], _ => by simp only [msEs]; exact Int.natCast_nonneg _
  | ts, e :: es, h => by
    have h1 := marksR ts e (h e (by simp))
    have h2 := marksEs ts es (fun x hx => h x (by simp [hx]))
    simp only [msEs]
    rw [msEs_k]
    have e3 : twR ts * ((e :: es).length + cntEs (e :: es)) = twR ts * (cntR e + 1) + twR ts * (es.length + cntEs es) := by
      rw [← Nat.mul_add]; congr 1; simp [cntEs]; omega
    omega
end
/-- The marks of a row. -/
theorem Rw.marks {fs : List Ty} {es : List (List L)} (h : Rw fs es) (hw : twR fs ≤ 64) : (msEs es 0).2 ≤ (64 * cntE es : Nat) := by
  have := marksEs fs es h.2
  have h2 : twR fs * (es.length + cntEs es) ≤ 64 * (es.length + cntEs es) := Nat.mul_le_mul_right _ hw
  unfold cntE
  omega
theorem kN_bound : ∀ {rs : List (List (List L))} {k : Int}, (∀ r ∈ rs, (msEs r 0).2 ≤ (64 * cntE r : Nat)) → kN0 rs k ≤ k + (64 * cntRs rs : Nat)
  | [], k, _ => by simp [kN0, cntRs]
  | r :: rs, k, h => by
    simp only [kN0, cntRs]
    have h1 := h r (by simp)
    have h2 := kN_bound (rs := rs) (k := (msEs r k).2) (fun x hx => h x (by simp [hx]))
    rw [msEs_k] at h2
    rw [msEs_k r k]
    have : 64 * (cntE r + cntRs rs) = 64 * cntE r + 64 * cntRs rs := Nat.mul_add _ _ _
    omega
theorem kN_small {rs : List (List (List L))} {k : Int} (h : ∀ r ∈ rs, (msEs r 0).2 ≤ (64 * cntE r : Nat)) (hk : 0 ≤ k ∧ k ≤ 1000) (hc : cntRs rs ≤ 1099511627776) : kN0 rs k ≤ 1152921504606846976 := by
  have := kN_bound (k := k) h
  have : 64 * cntRs rs ≤ 64 * 1099511627776 := Nat.mul_le_mul_left _ hc
  omega
theorem kN_pos {rs : List (List (List L))} {k : Int} (hk : 0 ≤ k) : ¬ kN0 rs k < 0 := by
  rw [kN_k]; have := kN_0 (rs := rs); omega
theorem szN_ok {rs : List (List (List L))} (h : ¬ szN0 rs 1048576 < 0) : cntRs rs ≤ 1048576 := by rw [szN_neg] at h; omega
theorem szN_no {rs : List (List (List L))} (h : cntRs rs ≤ 1048576) : ¬ szN0 rs 1048576 < 0 := by rw [szN_neg]; omega
theorem subI_mk {es : List (List L)} {k : Int} : subI (mkN0 es k) 0 es.length = mkN0 es k := by
  rw [← mkN_length (es := es) (k := k), sub_all]
end Go.V
