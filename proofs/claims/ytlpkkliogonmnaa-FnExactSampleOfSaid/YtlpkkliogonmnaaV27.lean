/-
  The value-level condition generator, part 27: code and functions, for evaluation; a contract out of it.
-/
import Derived.Test.YtlpkkliogonmnaaV26
set_option linter.all false

namespace Go.V

section
variable (T : Tab) (O : Ops) (ct : Cts) (n : Nat) (an : List Nat)

def vwpO : Code → (Ex → VS → Prop) → VS → Prop
  | .skip, Q, σ => Q .normal σ
  | .region _ ops draw, Q, σ => vseqO T O ct n ops ops.toList σ [] fun σ' acc => match draw with
    | true => O.pr (fun _ => okOrder ops acc.reverse = true) ∧ Q .normal σ'
    | false => Q .normal σ'
  | .seq x y, Q, σ => vwpO x (fun e σ' => match e with
      | .normal => vwpO y Q σ'
      | .exit i => Q (.exit i) σ'
      | .ret => Q .ret σ') σ
  | .cond c x y, Q, σ => (evBool c .ret).wpU (get σ) [] fun _ b => caseB b (fun _ => vwpO x Q σ) (fun _ => vwpO y Q σ)
  | .block id x, Q, σ => vwpO x (fun e σ' => match e with
      | .normal => Q .normal σ'
      | .exit i => match Nat.beq i id with
        | true => Q .normal σ'
        | false => Q (.exit i) σ'
      | .ret => Q .ret σ') σ
  | .loop x, Q, σ => ∃ (regs roots : List Nat) (α : Type) (ov : α → List W) (rel : α → Prop) (μ : α → Nat), (∃ s0, rel s0 ∧ LeO an σ (keepS σ regs roots (ov s0))) ∧
      ∀ s, rel s → vwpO x (fun e σ' => match e with
        | .normal => ∃ s', rel s' ∧ μ s' < μ s ∧ LeO an σ' (keepS σ regs roots (ov s'))
        | .exit i => Q (.exit i) σ'
        | .ret => Q .ret σ') (keepS σ regs roots (ov s))
  | .exit id, Q, σ => Q (.exit id) σ
  | .ret, Q, σ => Q .ret σ
  | .scope x, Q, σ => vwpO x Q σ
  | _, _, _ => False

def finO {α : Type} (O : Ops) (ti : TI) (k : DV → List (Nat × Nat) → Rd α) (as : List A) : Rd α :=
  takeAllO O ti.slots as fun lts srcs => if ti.agg then k (.agg (lts.map (·.1))) srcs else match lts with
    | [(l, _)] => k (.one l) srcs
    | _ => .fail
def resDO {α : Type} (t : TypeId) (rv : ResultVar) (k : DV → List (Nat × Nat) → Rd α) : Rd α :=
  match lk T.tyL t with
  | none => .fail
  | some ti => match rv with
    | .tmp x => rdR x fun r => match r with
      | .one a => if ti.agg then .fail else finO O ti k [a]
      | .agg as => if ti.agg then finO O ti k as else .fail
      | .tup _ => .fail
    | .cell x t' => if t' == t then rdR x fun r => match r with
      | .one (.pt r j) => loadLeavesO O r j ti.zero.length (finO O ti k)
      | _ => .fail
      else .fail
def resDsO {α : Type} : List TypeId → List ResultVar → (List DV → List (Nat × Nat) → Rd α) → Rd α
  | [], [], k => k [] []
  | t :: ts, rv :: rvs, k => resDO T O t rv fun d src => resDsO ts rvs fun ds srcs => k (d :: ds) (src ++ srcs)
  | _, _, _ => .fail
def vretO (ts : List TypeId) (rvs : List ResultVar) (σ : VS) (res : List DV) : Prop :=
  (resDsO T O ts rvs fun ds srcs => if distinctP srcs then .req (O.pr fun _ => ds = res) (.ret ()) else .fail).wpU (get σ) [] fun _ _ => True

end

section
variable {P : Program} {T : Tab} {cx : Cx} {g : Gm}

theorem loadLeaves_mono {α : Type} {r : Nat} : ∀ {m j : Nat} {k' k : List A → Rd α} {ls : List Loc} {x : α}, (∀ as ls, (k' as).Runs g ls x → (k as).Runs g ls x) → (loadLeaves r j m k').Runs g ls x → (loadLeaves r j m k).Runs g ls x
  | 0, j, k', k, ls, x, hk, h => hk _ _ h
  | m + 1, j, k', k, ls, x, hk, h => rdH_mono (fun v ls h => loadLeaves_mono (fun as ls h => hk _ _ h) h) h
theorem resDO_ref (hT : TabOk P T) {α : Type} {t : TypeId} {rv : ResultVar} {k' k : DV → List (Nat × Nat) → Rd α} {ls : List Loc} {x : α} (hk : ∀ d s ls, (k' d s).Runs g ls x → (k d s).Runs g ls x) (h : (resDO T stdO t rv k').Runs g ls x) : (resD P t rv k).Runs g ls x := by
  revert h
  unfold resDO resD
  rcases hT.ty t with e | ⟨ti, e, e2⟩
  · simp only [e]; exact fun h => h.elim
  · simp only [e, e2]
    have hf : ∀ (as : List A) (ls : List Loc), (finO stdO ti k' as).Runs g ls x → (takeAll ti.slots as fun lts srcs => if ti.agg then k (.agg (lts.map (·.1))) srcs else match lts with
        | [(l, _)] => k (.one l) srcs
        | _ => .fail).Runs g ls x := by
      intro as ls h
      unfold finO at h
      rw [takeAll_std] at h
      refine takeAll_mono ?_ h
      intro l src ls h
      by_cases ha : ti.agg = true
      · rw [if_pos ha] at h ⊢; exact hk _ _ _ h
      · rw [if_neg ha] at h ⊢
        split at h
        · exact hk _ _ _ h
        · exact h.elim
    intro h
    cases rv with
    | tmp y =>
      refine rdR_mono ?_ h
      intro r ls h
      cases r with
      | one a =>
        simp only at h ⊢
        split at h
        · exact h.elim
        · rename_i hb; rw [if_neg hb]; exact hf _ _ h
      | agg as =>
        simp only at h ⊢
        split at h
        · rename_i hb; rw [if_pos hb]; exact hf _ _ h
        · exact h.elim
      | tup rs => exact h
    | cell y t' =>
      refine ite_mono (fun ls h => ?_) h
      refine rdR_mono ?_ h
      intro r ls h
      cases r with
      | one a => cases a with
        | pt r j =>
          simp only [loadLeaves_std] at h
          exact loadLeaves_mono (fun as ls h => hf as ls h) h
        | _ => exact h
      | agg as => exact h
      | tup rs => exact h
theorem resDsO_ref (hT : TabOk P T) {α : Type} : ∀ {ts : List TypeId} {rvs : List ResultVar} {k' k : List DV → List (Nat × Nat) → Rd α} {ls : List Loc} {x : α}, (∀ d s ls, (k' d s).Runs g ls x → (k d s).Runs g ls x) → (resDsO T stdO ts rvs k').Runs g ls x → (resDs P ts rvs k).Runs g ls x
  | [], [], k', k, ls, x, hk, h => hk _ _ _ h
  | [], _ :: _, k', k, ls, x, hk, h => h
  | _ :: _, [], k', k, ls, x, hk, h => h
  | t :: ts, rv :: rvs, k', k, ls, x, hk, h => resDO_ref hT (fun d s ls h => resDsO_ref hT (fun d s ls h => hk _ _ _ h) h) h

theorem vwpO_sound (hT : TabOk P T) {ct : Cts} (hct : CtsOk P ct) (hm : P.follows .mixedOrders = true) {n : Nat} (hn : n = cx.n) {an : List Nat} (ha : ∀ r x, cx.aloc r = some x → r ∈ an) : ∀ (c : Code) (Q : Ex → VS → Prop) (σ : VS) (a : Act) (w : World), vwpO T stdO ct n an c Q σ → Sim cx (get σ) a w →
    c.wp P (fun e a' w' => ∃ ex σ', e = exOf ex ∧ Q ex σ' ∧ Sim cx (get σ') a' w') a w
  | .skip, Q, σ, a, w, h, hS => wp_skip ⟨.normal, σ, rfl, h, hS⟩
  | .region id ops draw, Q, σ, a, w, h, hS => by
    obtain ⟨xs, σ', h1, h2⟩ := vseqO_run hT hct _ _ _ _ h
    subst hn
    cases draw with
    | false => exact wp_region_list (h1.text hS (fun a' w' hs => ⟨.normal, σ', rfl, h2, hs⟩))
    | true =>
      obtain ⟨h2, h3⟩ := h2
      refine region_draw hm h1 ?_ (fun a' w' hs => ⟨.normal, σ', rfl, h3, hs⟩) (fun a w h => h.drawn _) hS
      have h2 : okOrder ops _ = true := h2
      simpa using h2
  | .seq x y, Q, σ, a, w, h, hS => by
    refine wp_seq (Code.wp_mono ?_ (vwpO_sound hT hct hm hn ha x _ σ a w h hS))
    rintro e a' w' ⟨ex, σ', rfl, hq, hs⟩
    cases ex with
    | normal => exact vwpO_sound hT hct hm hn ha y Q σ' a' w' hq hs
    | exit i => exact ⟨.exit i, σ', rfl, hq, hs⟩
    | ret => exact ⟨.ret, σ', rfl, hq, hs⟩
  | .cond c x y, Q, σ, a, w, h, hS => by
    obtain ⟨G, hG⟩ := id hS
    obtain ⟨ls, b, t, h1, h2, _⟩ := Rd.wpU_runs h
    obtain ⟨b', ls', e, h3⟩ := evBool_sound hG h1
    refine wp_cond e ?_
    simp only [Rd.Runs] at h3
    obtain ⟨_, rfl⟩ := h3
    cases b with
    | true => exact vwpO_sound hT hct hm hn ha x Q σ a w h2 hS
    | false => exact vwpO_sound hT hct hm hn ha y Q σ a w h2 hS
  | .block id x, Q, σ, a, w, h, hS => by
    refine wp_block (Code.wp_mono ?_ (vwpO_sound hT hct hm hn ha x _ σ a w h hS))
    rintro e a' w' ⟨ex, σ', rfl, hq, hs⟩
    cases ex with
    | normal => exact ⟨.normal, σ', rfl, hq, hs⟩
    | exit i =>
      simp only [exOf, Exit.inBlock]
      simp only at hq
      split at hq
      · rename_i e; rw [if_pos (Nat.eq_of_beq_eq_true e)]; exact ⟨.normal, σ', rfl, hq, hs⟩
      · rename_i e; rw [if_neg (Nat.ne_of_beq_eq_false e)]; exact ⟨.exit i, σ', rfl, hq, hs⟩
    | ret => exact ⟨.ret, σ', rfl, hq, hs⟩
  | .loop x, Q, σ, a, w, h, hS => by
    obtain ⟨regs, roots, α, ov, rel, μ, ⟨s0, hr0, hle0⟩, hround⟩ := h
    refine wp_loop_ghost (fun s a w => rel s ∧ Sim cx (get (keepS σ regs roots (ov s))) a w) μ s0 ⟨hr0, hle0.sim ha hS⟩ ?_
    rintro s a w ⟨hr, hs⟩
    refine Code.wp_mono ?_ (vwpO_sound hT hct hm hn ha x _ _ a w (hround s hr) hs)
    rintro e a' w' ⟨ex, σ', rfl, hq, hs'⟩
    cases ex with
    | normal =>
      obtain ⟨s', k1, k2, k3⟩ := hq
      exact ⟨s', ⟨k1, k3.sim ha hs'⟩, k2⟩
    | exit i => exact ⟨.exit i, σ', rfl, hq, hs'⟩
    | ret => exact ⟨.ret, σ', rfl, hq, hs'⟩
  | .exit id, Q, σ, a, w, h, hS => wp_exit ⟨.exit id, σ, rfl, h, hS⟩
  | .ret, Q, σ, a, w, h, hS => wp_ret ⟨.ret, σ, rfl, h, hS⟩
  | .scope x, Q, σ, a, w, h, hS => by
    refine wp_scope_straight (Code.wp_mono ?_ (vwpO_sound hT hct hm hn ha x Q σ a w h hS))
    rintro e a' w' ⟨ex, σ', rfl, hq, hs⟩
    cases ex with
    | normal => exact ⟨.normal, σ', rfl, hq, hs⟩
    | exit i => exact ⟨.exit i, σ', rfl, hq, hs⟩
    | ret => exact ⟨.ret, σ', rfl, hq, hs⟩
  | .rangeFunc _ _ _ _, Q, σ, a, w, h, hS => h.elim
  | .label _, Q, σ, a, w, h, hS => h.elim
  | .goto _, Q, σ, a, w, h, hS => h.elim
  | .refuse _, Q, σ, a, w, h, hS => h.elim

/-- How a function's condition ends. -/
def finQ (T : Tab) (O : Ops) (ts : List TypeId) (rvs : List ResultVar) (res : List DV) : Ex → VS → Prop
  | .normal, σ => vretO T O ts rvs σ res
  | .ret, σ => vretO T O ts rvs σ res
  | .exit _, _ => False

theorem ctr_of_vwpO (hT : TabOk P T) {Φ : Type} {F0 : Φ} {ctF : Φ → CT} (hct : CTok P (ctF F0)) (hm : P.follows .mixedOrders = true) {f : FuncId} {fn : Func} {ds res : List DV} (n : Nat) (c : Code) (ts : List TypeId) (rvs : List ResultVar) (hf : P.funcs[f]? = some fn) (hb : fn.body = some c) (hnt : fn.ntmps = n) (hts : fn.resultTypes.toList = ts) (hrv : fn.results.toList = rvs) (hn : Nat.ble ds.length n = true)
    (h : ∀ pr ar sh cmp wr bq bn sel mm ln zi nn ad df cat sub rep gi gb gt gs pi pb pt ps up r F, Std pr ar sh cmp wr bq bn sel mm ln zi nn ad df cat sub rep gi gb gt gs pi pb pt ps up → r = res → F = F0 →
      vwpO T ⟨pr, ar, sh, cmp, wr, bq, bn, sel, mm, ln, zi, nn, ad, df, cat, sub, rep, gi, gb, gt, gs, pi, pb, pt, ps, up⟩ ⟨ctF F, fun _ => none⟩ n [] c (finQ T ⟨pr, ar, sh, cmp, wr, bq, bn, sel, mm, ln, zi, nn, ad, df, cat, sub, rep, gi, gb, gt, gs, pi, pb, pt, ps, up⟩ ts rvs r) (initV 0 ds)) : Ctr P f ds res := by
  subst hnt hts hrv
  replace h : ∀ O, O = stdO → vwpO T O ⟨ctF F0, fun _ => none⟩ fn.ntmps [] c (finQ T O fn.resultTypes.toList fn.results.toList res) (initV 0 ds) := by
    rintro O rfl
    exact h _ _ _ _ _ _ _ _ _ _ _ _ _ _ _ _ _ _ _ _ _ _ _ _ _ _ _ _ ⟨rfl, rfl, rfl, rfl, rfl, rfl, rfl, rfl, rfl, rfl, rfl, rfl, rfl, rfl, rfl, rfl, rfl, rfl, rfl, rfl, rfl, rfl, rfl, rfl, rfl, rfl⟩ rfl rfl
  replace hn := Nat.le_of_ble_eq_true hn
  intro w vs hargs
  refine calls_of_wp hf hb ?_
  refine Code.wp_mono ?_ (vwpO_sound (cx := ⟨fn.ntmps, w, fun _ => True, fun _ => undef, fun _ => none⟩) hT (ct := ⟨ctF F0, fun _ => none⟩) ⟨hct, fun f mk e => by cases e⟩ hm rfl (an := []) (fun r x e => by cases e) c _ _ _ w (h _ rfl) (init_sim fn.ntmps w ds vs hargs hn))
  rintro e a' w' ⟨ex, σ', rfl, hq', G, hS⟩
  have hq : vretO T stdO fn.resultTypes.toList fn.results.toList σ' res := by
    cases ex with
    | normal => exact hq'
    | ret => exact hq'
    | exit i => exact hq'.elim
  have hex : ex = .normal ∨ ex = .ret := by
    cases ex with
    | normal => exact .inl rfl
    | ret => exact .inr rfl
    | exit i => exact hq'.elim
  unfold vretO at hq
  obtain ⟨ls, u, t, h1, _⟩ := Rd.wpU_runs hq
  obtain ⟨ds', vs', srcs, S, ls', k1, k2, k3, k4, k5⟩ := resDs_sound hS _ _ _ _ _ (resDsO_ref hT (fun _ _ _ h => h) h1)
  split at k5
  case isFalse => exact k5.elim
  rename_i hd
  simp only [Rd.Runs] at k5
  have hres0 : ds' = res := k5.1
  subst hres0
  have hrun : (results fn a'.tmps).run P w' = .ok (if h : vs'.toArray.size = 1 then vs'.toArray[0] else .tuple vs'.toArray) w' := by
    rw [results_eq, Array.mapM_eq_mapM_toList (m := Sem)]
    simp only [Sem.run_bind, Sem.run_map, k1, Result.andThen_ok, Sem.run_pure]
  have hfresh : ∀ b ∈ S, w.heap.size ≤ b ∧ Unf w' b := by
    intro b hb
    obtain ⟨u, r, j, m1, m2⟩ := k4 b hb
    refine ⟨?_, u⟩
    rcases Nat.lt_or_ge b w.heap.size with hlt | hge
    · rcases hS.frow b hlt trivial with e | e <;> rw [m2] at e <;> cases e
    · exact hge
  have hres : RdRes w' ds' (if h : vs'.toArray.size = 1 then vs'.toArray[0] else .tuple vs'.toArray) S := by
    have hl : ∀ {ds : List DV} {vs : List Value} {S : List Nat}, RdDVs w' ds vs S → vs.length = ds.length := by
      intro ds
      induction ds with
      | nil => intro vs S h; simp only [RdDVs] at h; simp [h.1]
      | cons d ds ih => intro vs S h; simp only [RdDVs] at h; obtain ⟨v, vs', S1, S2, rfl, _, h2, _⟩ := h; simp [ih h2]
    have hlen := hl k2
    cases ds' with
    | nil =>
      have : vs' = [] := List.eq_nil_of_length_eq_zero hlen
      subst this
      exact ⟨[], by simp, k2⟩
    | cons d1 rest =>
      cases rest with
      | nil =>
        simp only [RdDVs] at k2
        obtain ⟨v, vs'', S1, S2, rfl, q1, ⟨rfl, rfl⟩, rfl⟩ := k2
        simpa [RdRes] using q1
      | cons d2 rest =>
        have : ¬ vs'.toArray.size = 1 := by simp at hlen; simp; omega
        rw [dif_neg this]
        exact ⟨vs', rfl, k2⟩
  have fin : a'.defers = [] ∧ ∃ v, (results fn a'.tmps).run P w' = .ok v w' ∧ ∃ v' S, Ending.returned v = .returned v' ∧ RdRes w' ds' v' S ∧ S.Nodup ∧ (∀ b ∈ S, w.heap.size ≤ b ∧ Unf w' b) ∧ Same (fun _ => True) w w' :=
    ⟨hS.defers, _, hrun, _, S, rfl, hres, k3 hd, hfresh, hS.frame⟩
  rcases hex with rfl | rfl
  · exact fin
  · exact fin

theorem loop_step {α : Type} {rel : α → Prop} {μ : α → Nat} {m : Nat} {le : α → Prop} (s : α) (h1 : rel s) (h2 : μ s < m) (h3 : le s) : ∃ s, rel s ∧ μ s < m ∧ le s := ⟨s, h1, h2, h3⟩

end
end Go.V
