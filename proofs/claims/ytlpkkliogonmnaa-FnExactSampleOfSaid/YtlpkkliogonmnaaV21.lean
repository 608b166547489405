/-
  The value-level condition generator, part 21: the rest of the operations, with the standard ones behind the variable.
-/
import Derived.Test.YtlpkkliogonmnaaV20
set_option linter.all false

namespace Go.V

section
variable {P : Program} {T : Tab} {n : Nat} {g : Gm}

theorem vBin_ref (hT : TabOk P T) {d : Option Tmp} {op : BinOp} {t : TypeId} {x y : Operand} {ls : List Loc} {out : Out} (h : (vBinO T stdO n d op t x y).Runs g ls out) : (vBin P n d op t x y).Runs g ls out := by
  unfold vBinO at h
  unfold vBin
  refine ev1_mono ?_ h
  intro a ls h
  refine ev1_mono ?_ h
  intro b ls h
  cases a with
  | v a =>
    cases b with
    | v b =>
      cases a with
      | int k a =>
        cases b with
        | int k' b =>
          by_cases hk : k = k'
          · subst hk
            cases op <;> first
              | exact h
              | (simp only [isSh, isDiv, isAr, isCmp, ishift, ibin, beq_self_eq_true, if_true, Bool.false_eq_true, if_false] at h ⊢; exact h)
              | (simp only [isSh, isDiv, isAr, isCmp, ishift, ibin, beq_self_eq_true, if_true, Bool.false_eq_true, if_false] at h ⊢; exact ⟨trivial, h⟩)
              | (simp [isSh, isDiv, isAr, isCmp, Rd.Runs] at h)
          · cases op <;> first
              | exact h
              | (simp [isSh, hk, Rd.Runs] at h)
        | _ => exact h.elim
      | bool a =>
        cases b with
        | bool b =>
          rcases hT.bo t with e | ⟨q, e, hb⟩
          · simp [e, Rd.Runs] at h
          · cases op <;> first
              | (simp only [e, hb, Option.isSome_some, isEq, Bool.true_and, Bool.and_true, if_true] at h ⊢; exact h)
              | (simp [isEq, Rd.Runs] at h)
        | _ => exact h.elim
      | _ => exact h.elim
    | _ => cases a <;> exact h.elim
  | _ => exact h.elim

theorem vUn_ref {d : Option Tmp} {op : UnOp} {x : Operand} {ls : List Loc} {out : Out} (h : (vUnO stdO n d op x).Runs g ls out) : (vUn n d op x).Runs g ls out := by
  unfold vUnO at h
  unfold vUn
  refine ev1_mono ?_ h
  intro a ls h
  cases a with
  | v a => cases op <;> cases a <;> exact h
  | _ => cases op <;> exact h

theorem lenA_ref {α : Type} {a : A} {k : Nat → Rd α} {ls : List Loc} {x : α} (h : (lenAO stdO a k).Runs g ls x) : (lenA a k).Runs g ls x := by
  cases a with
  | vn r j ver iv p lo m =>
    refine rdH_mono ?_ h
    intro hv ls h
    revert h
    generalize hv.c = c
    intro h
    cases c with
    | own l =>
      refine ite_mono (fun ls h => ?_) h
      obtain ⟨hs, h⟩ := h
      obtain ⟨⟨sz, es⟩, e⟩ := Option.isSome_iff_exists.1 hs
      obtain ⟨rec, o, f1, f2⟩ := getS_some e
      simp only [f1, f2]; exact h
    | ro l => exact h
    | gone => exact h
  | vw r j ver lo m =>
    refine rdH_mono ?_ h
    intro hv ls h
    revert h
    generalize hv.c = c
    intro h
    cases c with
    | own l => cases l <;> exact h
    | ro l => exact h
    | gone => exact h
  | _ => exact h

theorem srcElems_ref {α : Type} {ti : TI} {a : A} {k' k : List Rec → List (Nat × Nat) → Rd α} {ls : List Loc} {x : α} (hk : ∀ es src ls, (k' es src).Runs g ls x → (k es src).Runs g ls x) (h : (srcElemsO stdO ti a k').Runs g ls x) : (srcElems ti a k).Runs g ls x := by
  cases a with
  | nl => exact hk _ _ _ h
  | ro sz es => exact ite_mono (fun ls h => req_mono id (fun ls h => hk _ _ _ h) h) h
  | vw r j ver lo m =>
    refine rdH_mono ?_ h
    intro hv ls h
    revert h
    generalize hv.c = c
    intro h
    cases c with
    | own l => cases l with
      | s sz es =>
        refine ite_mono (fun ls h => ?_) h
        by_cases hs : allScal ti.slots = true
        · rw [if_pos hs] at h ⊢; exact req_mono id (fun ls h => hk _ _ _ h) h
        · rw [if_neg hs] at h ⊢; exact req_mono id (fun ls h => hk _ _ _ h) h
      | v x => exact h
      | g => exact h
    | ro l => exact h
    | gone => exact h
  | vn r j ver iv p lo m =>
    refine rdH_mono ?_ h
    intro hv ls h
    revert h
    generalize hv.c = c
    intro h
    cases c with
    | own l =>
      refine ite_mono (fun ls h => ?_) h
      obtain ⟨⟨h1, h2⟩, h⟩ := h
      obtain ⟨rec, o, f1, f2⟩ := getS_some h1
      simp only [f1, f2, beq_self_eq_true, if_true]
      exact ⟨h2, hk _ _ _ h⟩
    | ro l => exact h
    | gone => exact h
  | _ => exact h

theorem vAppend_ref (hT : TabOk P T) {d : Option Tmp} {t t' : TypeId} {s x : Operand} {ls : List Loc} {out : Out} (h : (vAppendO T stdO n d t t' s x).Runs g ls out) : (vAppend P n d t t' s x).Runs g ls out := by
  revert h
  unfold vAppendO vAppend
  rcases hT.el t with e | ⟨q, e, e2⟩
  · simp only [e]; exact fun h => h.elim
  simp only [e, e2]
  intro h
  ·
    obtain ⟨e, ti, b⟩ := q
    refine ite_mono (fun ls h => ?_) h
    refine ev1_mono ?_ h
    intro a ls h
    refine ev1_mono ?_ h
    intro b ls h
    rw [take1_std] at h
    refine take1_mono ?_ h
    intro l og src ls h
    cases l with
    | s sz es =>
      refine ite_mono (fun ls h => ?_) h
      refine srcElems_ref ?_ h
      intro es2 src2 ls h
      exact h
    | v y => exact h
    | g => exact h

/-- What a reader hands on, and that any other continuation may take it. -/
def Fac (g : Gm) {α τ : Type} (m : ∀ {β : Type}, (τ → Rd β) → Rd β) (k' : τ → Rd α) (ls : List Loc) (x : α) : Prop :=
  ∃ t ls', (k' t).Runs g ls' x ∧ ∀ {β : Type} (k : τ → Rd β) (y : β), (k t).Runs g ls' y → (m k).Runs g ls y

theorem rd_fac {α : Type} {l : Loc} {k' : Val → Rd α} {ls : List Loc} {x : α} (h : (rd l k').Runs g ls x) : Fac g (fun k => rd l k) k' ls x := by
  unfold rd at h
  obtain ⟨ls', e, h⟩ := h
  cases hg : g l with
  | none => simp [hg, Rd.Runs] at h
  | some v =>
    simp only [hg] at h
    refine ⟨v, ls', h, ?_⟩
    intro β k y hy
    refine ⟨ls', e, ?_⟩
    simp only [hg]
    exact hy
theorem rdR_fac {α : Type} {d : Nat} {k' : R → Rd α} {ls : List Loc} {x : α} (h : (rdR d k').Runs g ls x) : Fac g (fun k => rdR d k) k' ls x := by
  obtain ⟨v, ls', h1, h2⟩ := rd_fac h
  cases v with
  | r y => exact ⟨y, ls', h1, fun k z hz => h2 _ z hz⟩
  | _ => exact h1.elim
theorem rdH_fac {α : Type} {r j : Nat} {k' : Hv → Rd α} {ls : List Loc} {x : α} (h : (rdH r j k').Runs g ls x) : Fac g (fun k => rdH r j k) k' ls x := by
  obtain ⟨v, ls', h1, h2⟩ := rd_fac h
  cases v with
  | h y => exact ⟨y, ls', h1, fun k z hz => h2 _ z hz⟩
  | _ => exact h1.elim
theorem ev_fac {α : Type} {o : Operand} {k' : R → Rd α} {ls : List Loc} {x : α} (h : (ev o k').Runs g ls x) : Fac g (fun k => ev o k) k' ls x := by
  cases o with
  | tmp t => exact rdR_fac h
  | const c => exact ⟨_, ls, h, fun k y hy => hy⟩
  | _ => exact h.elim
theorem argL_fac {α : Type} {slot : Option Nat} {a : A} {k' : L → Rd α} {ls : List Loc} {x : α} (h : (argLO stdO slot a k').Runs g ls x) : Fac g (fun k => argL slot a k) k' ls x := by
  cases slot with
  | none =>
    cases a with
    | v y =>
      simp only [argLO] at h
      split at h
      · rename_i hs; exact ⟨_, ls, h, fun k z hz => by simp only [argL, hs, if_true]; exact hz⟩
      · exact h.elim
    | _ => exact h.elim
  | some sz =>
    cases a with
    | nl => exact ⟨_, ls, h, fun k y hy => hy⟩
    | ro sz' es =>
      simp only [argLO] at h
      split at h
      · rename_i hs; exact ⟨_, ls, h, fun k z hz => by simp only [argL, hs, if_true]; exact hz⟩
      · exact h.elim
    | vw r j ver lo m =>
      obtain ⟨hv, ls', h1, h2⟩ := rdH_fac h
      cases hc : hv.c with
      | own l => cases l with
        | s sz' es =>
          simp only [hc] at h1
          split at h1
          · rename_i hs; exact ⟨_, ls', h1, fun k z hz => h2 _ z (by simp only [hc, hs, if_true]; exact hz)⟩
          · exact h1.elim
        | v x => simp [hc, Rd.Runs] at h1
        | g => simp [hc, Rd.Runs] at h1
      | ro l => simp [hc, Rd.Runs] at h1
      | gone => simp [hc, Rd.Runs] at h1
    | vn r j ver iv p lo m =>
      obtain ⟨hv, ls', h1, h2⟩ := rdH_fac h
      cases hc : hv.c with
      | own l =>
        simp only [hc] at h1
        split at h1
        · rename_i hg
          obtain ⟨e1, h1⟩ := h1
          obtain ⟨rec, o, f1, f2⟩ := getS_some e1
          refine ⟨_, ls', h1, fun k z hz => h2 _ z ?_⟩
          simp only [hc, hg, if_true, f1, f2, beq_self_eq_true]
          exact hz
        · exact h1.elim
      | ro l => simp [hc, Rd.Runs] at h1
      | gone => simp [hc, Rd.Runs] at h1
    | _ => exact h.elim
theorem argLs_fac {α : Type} : ∀ {sl : List (Option Nat)} {as : List A} {k' : List L → Rd α} {ls : List Loc} {x : α}, (argLsO stdO sl as k').Runs g ls x → Fac g (fun k => argLs sl as k) k' ls x
  | [], [], _, ls, _, h => ⟨_, ls, h, fun _ _ hy => hy⟩
  | [], _ :: _, _, _, _, h => h.elim
  | _ :: _, [], _, _, _, h => h.elim
  | _ :: _, _ :: _, _, _, _, h => by
    obtain ⟨l, ls1, h1, h2⟩ := argL_fac h
    obtain ⟨l2, ls2, h3, h4⟩ := argLs_fac h1
    exact ⟨l :: l2, ls2, h3, fun k y hy => h2 _ y (h4 _ y hy)⟩
theorem argD_fac (hT : TabOk P T) {α : Type} {t : TypeId} {o : Operand} {k' : DV → Rd α} {ls : List Loc} {x : α} (h : (argDO T stdO t o k').Runs g ls x) : Fac g (fun k => argD P t o k) k' ls x := by
  unfold argDO at h
  rcases hT.ty t with e | ⟨ti, e, hti⟩
  · simp [e, Rd.Runs] at h
  · simp only [e] at h
    obtain ⟨v, ls1, h1, h2⟩ := ev_fac h
    cases v with
    | one a =>
      simp only at h1
      split at h1
      · exact h1.elim
      · rename_i hb
        obtain ⟨l, ls2, h3, h4⟩ := argLs_fac h1
        simp only at h3
        split at h3
        · refine ⟨_, ls2, h3, fun k y hy => ?_⟩
          unfold argD
          simp only [hti]
          refine h2 _ y ?_
          simp only
          rw [if_neg hb]
          exact h4 _ y hy
        · exact h3.elim
    | agg as =>
      simp only at h1
      split at h1
      · rename_i hb
        obtain ⟨l, ls2, h3, h4⟩ := argLs_fac h1
        refine ⟨_, ls2, h3, fun k y hy => ?_⟩
        unfold argD
        simp only [hti]
        refine h2 _ y ?_
        simp only
        rw [if_pos hb]
        exact h4 _ y hy
      · exact h1.elim
    | tup rs => exact h1.elim
theorem argDs_fac (hT : TabOk P T) {α : Type} : ∀ {ts : List TypeId} {xs : List Operand} {k' : List DV → Rd α} {ls : List Loc} {x : α}, (argDsO T stdO ts xs k').Runs g ls x → Fac g (fun k => argDs P ts xs k) k' ls x
  | [], [], _, ls, _, h => ⟨_, ls, h, fun _ _ hy => hy⟩
  | [], _ :: _, _, _, _, h => h.elim
  | _ :: _, [], _, _, _, h => h.elim
  | _ :: _, _ :: _, _, _, _, h => by
    obtain ⟨l, ls1, h1, h2⟩ := argD_fac hT h
    obtain ⟨l2, ls2, h3, h4⟩ := argDs_fac hT h1
    exact ⟨l :: l2, ls2, h3, fun k y hy => h2 _ y (h4 _ y hy)⟩
theorem fresh_fac {α : Type} {d : Option Tmp} {k' : Nat → Rd α} {ls : List Loc} {x : α} (h : (fresh n d k').Runs g ls x) : Fac g (fun k => fresh n d k) k' ls x := by
  cases d with
  | none => exact h.elim
  | some d =>
    simp only [fresh] at h
    split at h
    · rename_i hlt
      obtain ⟨ls', e, h⟩ := h
      cases hg : g (.meta_ d) with
      | none =>
        simp only [hg] at h
        refine ⟨d, ls', h, fun k y hy => ?_⟩
        simp only [fresh, hlt, if_true, Rd.Runs]
        exact ⟨ls', e, by simp only [hg]; exact hy⟩
      | some v => simp [hg, Rd.Runs] at h
    · exact h.elim

/-- The contracts that the table names hold. -/
def CTok (P : Program) (ct : CT) : Prop := ∀ f ds pre res, ct f ds = some (pre, res) → pre () → Ctr P f ds res

def MTok (P : Program) (mt : MT) : Prop := ∀ f mk, mt f = some mk → ∀ ds pre outs res, mk ds = some (pre, outs, res) → pre () → MCtr P f ds outs res
def CtsOk (P : Program) (ct : Cts) : Prop := CTok P ct.rd ∧ MTok P ct.mu

/-- What an operation's step is in terms of part 16's. -/
def VStep (P : Program) (n : Nat) (o : Oper) (g : Gm) (ls : List Loc) (ws : List W) : Prop :=
  (callOf o = none ∧ (vop P n o).Runs g ls (.ws ws)) ∨
  (∃ f ts args ds mk res, callOf o = some (f, ts, args) ∧ (vCall P n o.dst f ts args).Runs g ls (.call f ds mk) ∧ Ctr P f ds res ∧ ws = mk res) ∨
  ∃ f ts args mk, callOf o = some (f, ts, args) ∧ (∀ ds pre outs res, mk ds = some (pre, outs, res) → pre () → MCtr P f ds outs res) ∧ (vCallM prS (tyI P) n o.dst (hasBody P f) ts args mk resWs).Runs g ls (.ws ws)

theorem own1_mono {α : Type} {slot : Option Nat} {a : A} {k' k : L → List (Nat × Nat) → Rd α} {x : α} {ls : List Loc} (hk : ∀ l p ls, (k' l p).Runs g ls x → (k l p).Runs g ls x) (h : (own1 prS slot a k').Runs g ls x) : (own1 prS slot a k).Runs g ls x := by
  cases slot with
  | none =>
    cases a with
    | v y => exact ite_mono (fun ls h => hk _ _ _ h) h
    | _ => exact h
  | some sz =>
    cases a with
    | vw r j ver lo m =>
      refine rdH_mono ?_ h
      intro hv ls h
      revert h
      generalize hv.c = c
      intro h
      cases c with
      | own l => cases l with
        | s sz' es => exact ite_mono (fun ls h => req_mono id (fun ls h => hk _ _ _ h) h) h
        | v x => exact h
        | g => exact h
      | ro l => exact h
      | gone => exact h
    | _ => exact h
theorem ownAll_mono {α : Type} : ∀ {sl : List (Option Nat)} {as : List A} {k' k : Rec → List (Nat × Nat) → Rd α} {x : α} {ls : List Loc}, (∀ l p ls, (k' l p).Runs g ls x → (k l p).Runs g ls x) → (ownAll prS sl as k').Runs g ls x → (ownAll prS sl as k).Runs g ls x
  | [], [], k', k, x, ls, hk, h => hk _ _ _ h
  | [], _ :: _, k', k, x, ls, hk, h => h
  | _ :: _, [], k', k, x, ls, hk, h => h
  | s :: sl, a :: as, k', k, x, ls, hk, h => own1_mono (fun l p ls h => ownAll_mono (fun _ _ ls h => hk _ _ ls h) h) h
theorem ownD_mono {ty ty' : TypeId → Option TI} (ht : ∀ t x, ty t = some x → ty' t = some x) {α : Type} {t : TypeId} {o : Operand} {k' k : DV → List (Nat × Nat) → Rd α} {x : α} {ls : List Loc} (hk : ∀ d p ls, (k' d p).Runs g ls x → (k d p).Runs g ls x)
    (h : (ownD prS ty t o k').Runs g ls x) : (ownD prS ty' t o k).Runs g ls x := by
  unfold ownD at h ⊢
  cases hti : ty t with
  | none => simp [hti, Rd.Runs] at h
  | some ti =>
    simp only [hti] at h
    simp only [ht t ti hti]
    refine ev_mono ?_ h
    intro v ls h
    cases v with
    | one a =>
      simp only at h ⊢
      split at h
      · exact h.elim
      · rename_i hb
        rw [if_neg hb]
        refine ownAll_mono ?_ h
        intro l p ls h
        split at h
        · exact hk _ _ _ h
        · exact h.elim
    | agg as =>
      simp only at h ⊢
      split at h
      · rename_i hb
        rw [if_pos hb]
        exact ownAll_mono (fun l p ls h => hk _ _ _ h) h
      · exact h.elim
    | tup rs => exact h
theorem ownDs_mono {ty ty' : TypeId → Option TI} (ht : ∀ t x, ty t = some x → ty' t = some x) {α : Type} : ∀ {ts : List TypeId} {xs : List Operand} {k' k : List DV → List (Nat × Nat) → Rd α} {x : α} {ls : List Loc}, (∀ d p ls, (k' d p).Runs g ls x → (k d p).Runs g ls x) →
    (ownDs prS ty ts xs k').Runs g ls x → (ownDs prS ty' ts xs k).Runs g ls x
  | [], [], k', k, x, ls, hk, h => hk _ _ _ h
  | [], _ :: _, k', k, x, ls, hk, h => h
  | _ :: _, [], k', k, x, ls, hk, h => h
  | t :: ts, o :: xs, k', k, x, ls, hk, h => ownD_mono ht (fun d p ls h => ownDs_mono ht (fun _ _ ls h => hk _ _ ls h) h) h

theorem vCallM_step (hT : TabOk P T) {o : Oper} {f : FuncId} {ts : Array TypeId} {args : Array Operand} {mk : MK} {ls : List Loc} {ws : List W} (hc : callOf o = some (f, ts, args)) (hmk : ∀ ds pre outs res, mk ds = some (pre, outs, res) → pre () → MCtr P f ds outs res)
    (h : (vCallM stdO.pr (lk T.tyL) n o.dst (lk T.fnL f).isSome ts args mk (resWsO stdO)).Runs g ls (.ws ws)) : VStep P n o g ls ws := by
  refine .inr (.inr ⟨f, ts, args, mk, hc, hmk, ?_⟩)
  rw [show stdO.pr = prS from rfl, show resWsO stdO = resWs from by funext d res; exact resWs_std d res] at h
  unfold vCallM at h ⊢
  split at h
  · rename_i hb'
    have hb : hasBody P f = true := by
      rcases hT.fn f with e | ⟨_, _, e⟩
      · rw [e] at hb'; cases hb'
      · exact e
    rw [if_pos hb]
    refine ownDs_mono ?_ (fun _ _ _ h => h) h
    intro t x e
    rcases hT.ty t with q | ⟨y, q1, q2⟩
    · rw [q] at e; cases e
    · rw [q1] at e; cases e; exact q2
  · exact h.elim

theorem vCall_step (hT : TabOk P T) {ct : Cts} (hct : CtsOk P ct) {o : Oper} {f : FuncId} {ts : Array TypeId} {args : Array Operand} {ls : List Loc} {ws : List W} (hc : callOf o = some (f, ts, args))
    (h : (vCallO T stdO ct n o.dst f ts args).Runs g ls (.ws ws)) : VStep P n o g ls ws := by
  unfold vCallO at h
  split at h
  · rename_i hb'
    have hb : hasBody P f = true := by
      rcases hT.fn f with e | ⟨_, _, e⟩
      · rw [e] at hb'; cases hb'
      · exact e
    obtain ⟨ds, ls1, h1, h2⟩ := argDs_fac hT h
    simp only at h1
    split at h1
    · rename_i pre res he
      obtain ⟨hp, h1⟩ := h1
      obtain ⟨d, ls2, h3, h4⟩ := fresh_fac h1
      simp only [Rd.Runs, Out.ws.injEq] at h3
      obtain ⟨rfl, rfl⟩ := h3
      refine .inr (.inl ⟨f, ts, args, ds, resWs d, res, hc, ?_, hct.1 _ _ _ _ he hp, by rw [resWs_std]⟩)
      unfold vCall
      rw [if_pos hb]
      refine h2 _ _ (h4 _ _ ?_)
      simp [Rd.Runs]
    · exact h1.elim
  · exact h.elim

theorem mm_std (b : Bool) : mmO stdO b = minmax b := by
  funext vs
  match vs with
  | [] => rfl
  | [x] => cases x <;> rfl
  | [x, y] => cases x <;> cases y <;> first | rfl | skip
              rename_i k a k' b'
              simp only [mmO, minmax]
              by_cases e : k = k'
              · subst e; simp only [beq_self_eq_true, if_true]; rfl
              · simp [e]
  | x :: y :: z :: vs => cases x <;> cases y <;> rfl

theorem vop_step (hT : TabOk P T) {ct : Cts} (hct : CtsOk P ct) {o : Oper} {ls : List Loc} {ws : List W} (h : (vopO T stdO ct n o).Runs g ls (.ws ws)) : VStep P n o g ls ws := by
  by_cases hc : ∃ c f, o.op = .call c ∧ c.callee = .value (.func f)
  · obtain ⟨c, f, e1, e2⟩ := hc
    unfold vopO at h
    simp only [e1, e2] at h
    cases hmu : ct.mu f with
    | none =>
      simp only [hmu] at h
      exact vCall_step hT hct (by unfold callOf; simp only [e1, e2]) h
    | some mk =>
      simp only [hmu] at h
      exact vCallM_step hT (by unfold callOf; simp only [e1, e2]) (hct.2 f mk hmu) h
  · refine .inl ⟨?_, ?_⟩
    · unfold callOf
      split
      · rename_i c e1
        split
        · rename_i f e2; exact absurd ⟨c, f, e1, e2⟩ hc
        · rfl
      · rfl
    · unfold vopO at h
      unfold vop
      generalize hop : o.op = op at h hc ⊢
      cases op with
      | call c =>
        simp only at h ⊢
        cases hcal : c.callee with
        | value x =>
          cases x with
          | func f => exact absurd ⟨c, f, rfl, hcal⟩ hc
          | _ => simp only [hcal] at h; exact h.elim
        | builtin b =>
          simp only [hcal] at h ⊢
          cases b with
          | len =>
            simp only at h ⊢
            split at h
            · rename_i x t e1 e2
              simp only [e1, e2]
              rcases hT.sl t with e | ⟨_, e, e3⟩
              · simp [e, Rd.Runs] at h
              simp only [e, e3, Option.isSome_some, if_true] at h ⊢
              refine ev1_mono ?_ h
              intro a ls h
              exact lenA_ref h
            · exact h.elim
          | append =>
            simp only at h ⊢
            split at h
            · rename_i e1 e2
              simp only [e1, e2]
              exact vAppend_ref hT h
            · exact h.elim
          | min => simp only [mm_std] at h ⊢; exact h
          | max => simp only [mm_std] at h ⊢; exact h
          | _ => exact h
        | _ => simp only [hcal] at h; exact h.elim
      | box t x => exact vBox_ref hT h
      | alloc t => exact vAlloc_ref hT h
      | build t parts => exact vBuild_ref hT h
      | fieldAddr s x f => exact vFieldAddr_ref hT h
      | buildSlice t len parts => exact vBuildSlice_ref hT h
      | load t x => exact vLoad_ref hT h
      | store t x y => cases hd : o.dst with
        | none => simp only [hd] at h ⊢; exact vStore_ref hT h
        | some d => simp only [hd] at h; exact h.elim
      | indexAddr t x i => exact vIndexAddr_ref hT h
      | binOp op t x y _ => exact vBin_ref hT h
      | unOp op t x => exact vUn_ref h
      | makeSlice t l c => exact vMake_ref hT h
      | slice t x lo hi mx => exact vSlice_ref hT h
      | assign x => exact h
      | pick c a b => exact h
      | convert s t x =>
        simp only at h ⊢
        refine evInt_mono ?_ h
        intro _ a ls h
        rcases hT.it s with e | ⟨k1, e, e3⟩
        · simp [e, Rd.Runs] at h
        rcases hT.it t with f | ⟨k2, f, f3⟩
        · simp [e, f, Rd.Runs] at h
        simp only [e, e3, f, f3] at h ⊢
        exact h
      | _ => exact h

end
end Go.V
