/-
  The value-level condition generator, part 20: with the standard operations behind the variable, the conditions of part 19 give those of part 2.
-/
import Derived.Test.YtlpkkliogonmnaaV19
set_option linter.all false

namespace Go.V

theorem leafA_std : leafAO stdO = leafA := rfl
theorem loadLeaves_std {α : Type} (r : Nat) : ∀ (m j : Nat) (k : List A → Rd α), loadLeavesO stdO r j m k = loadLeaves r j m k
  | 0, j, k => rfl
  | m + 1, j, k => by
    simp only [loadLeavesO, loadLeaves, leafA_std]
    congr 1; funext h
    exact loadLeaves_std r m (j + 1) _
theorem nestA_std (r j ver iv : Nat) (p : List (Nat × Nat)) : ∀ (ls : Rec) (o : Nat), nestAO stdO r j ver iv p o ls = nestA r j ver iv p o ls
  | [], o => rfl
  | .v x :: ls, o => by simp only [nestAO, nestA, nestA_std r j ver iv p ls]
  | .s sz es :: ls, o => by simp only [nestAO, nestA, nestA_std r j ver iv p ls]; rfl
  | .g :: ls, o => by simp only [nestAO, nestA, nestA_std r j ver iv p ls]
theorem take1_std : @take1O stdO = @take1 := rfl
theorem takeAll_std {α : Type} : ∀ (sl : List (Option Nat)) (as : List A) (k : List (L × Option Nat) → List (Nat × Nat) → Rd α), takeAllO stdO sl as k = takeAll sl as k
  | [], [], k => rfl
  | [], _ :: _, k => rfl
  | _ :: _, [], k => rfl
  | s :: sl, a :: as, k => by
    simp only [takeAllO, takeAll, take1_std]
    congr 1; funext l og src
    exact takeAll_std sl as _
theorem put1_std : @put1O stdO = @put1 := rfl
theorem putAll_std {α : Type} : ∀ (sl : List (Option Nat)) (as : List A) (k : List (H × Option Nat) → List (Nat × Nat) → Rd α), putAllO stdO sl as k = putAll sl as k
  | [], [], k => rfl
  | [], _ :: _, k => rfl
  | _ :: _, [], k => rfl
  | s :: sl, a :: as, k => by
    simp only [putAllO, putAll, put1_std]
    congr 1; funext l og src
    exact putAll_std sl as _
theorem ownRow_std : ownRowO stdO = ownRow := rfl
theorem partsOf_std {α : Type} (ti : TI) (len : Nat) : ∀ (ps : List (Nat × Operand)) (k : List (Nat × List L) → List (Nat × Nat) → Rd α), partsOfO stdO ti len ps k = partsOf ti len ps k
  | [], k => rfl
  | (i, x) :: ps, k => by
    simp only [partsOfO, partsOf, takeAll_std, partsOf_std ti len ps]; rfl
theorem resLeaf_std (d : Nat) : ∀ (ls : List L) (j : Nat), resLeafO stdO d j ls = resLeaf d j ls
  | [], j => rfl
  | .v x :: ls, j => by simp only [resLeafO, resLeaf, resLeaf_std d ls]
  | .s sz es :: ls, j => by simp only [resLeafO, resLeaf, resLeaf_std d ls]; rfl
  | .g :: ls, j => by simp only [resLeafO, resLeaf, resLeaf_std d ls]
theorem resR_std (d j : Nat) (r : DV) : resRO stdO d j r = resR d j r := by
  cases r <;> simp only [resRO, resR, resLeaf_std] <;> rfl
theorem resRs_std (d : Nat) : ∀ (rs : List DV) (j : Nat), resRsO stdO d j rs = resRs d j rs
  | [], j => rfl
  | r :: rs, j => by simp only [resRsO, resRs, resR_std, resRs_std d rs]
theorem resWs_std (d : Nat) (res : List DV) : resWsO stdO d res = resWs d res := by
  unfold resWsO resWs resAllO resAll
  split <;> simp only [resR_std, resRs_std]

section
variable {P : Program} {T : Tab} {n : Nat} {g : Gm}

theorem vBox_ref (hT : TabOk P T) {d : Option Tmp} {t : TypeId} {x : Operand} {ls : List Loc} {out : Out} (h : (vBoxO T stdO n d t x).Runs g ls out) : (vBox P n d t x).Runs g ls out := by
  revert h; unfold vBoxO vBox
  rcases hT.ty t with e | ⟨ti, e, e2⟩
  · simp only [e]; exact fun h => h.elim
  · simp only [e, e2, putAll_std]; exact fun h => h
theorem vMake_ref (hT : TabOk P T) {d : Option Tmp} {t : TypeId} {x y : Operand} {ls : List Loc} {out : Out} (h : (vMakeO T stdO n d t x y).Runs g ls out) : (vMake P n d t x y).Runs g ls out := by
  revert h; unfold vMakeO vMake
  rcases hT.el t with e | ⟨ti, e, e2⟩
  · simp only [e]; exact fun h => h.elim
  · simp only [e, e2, ownRow_std]; exact fun h => h
theorem vBuildSlice_ref (hT : TabOk P T) {d : Option Tmp} {t : TypeId} {len : Nat} {parts : Array (Nat × Operand)} {ls : List Loc} {out : Out} (h : (vBuildSliceO T stdO n d t len parts).Runs g ls out) : (vBuildSlice P n d t len parts).Runs g ls out := by
  revert h; unfold vBuildSliceO vBuildSlice
  rcases hT.el t with e | ⟨ti, e, e2⟩
  · simp only [e]; exact fun h => h.elim
  · simp only [e, e2, ownRow_std, partsOf_std]; exact fun h => h
theorem vAlloc_ref (hT : TabOk P T) {d : Option Tmp} {t : TypeId} {ls : List Loc} {out : Out} (h : (vAllocO T n d t).Runs g ls out) : (vAlloc P n d t).Runs g ls out := by
  revert h; unfold vAllocO vAlloc
  rcases hT.ty t with e | ⟨ti, e, e2⟩
  · simp only [e]; exact fun h => h.elim
  · simp only [e, e2]; exact fun h => h
theorem vBuild_ref (hT : TabOk P T) {d : Option Tmp} {t : TypeId} {parts : Array (Nat × Operand)} {ls : List Loc} {out : Out} (h : (vBuildO T n d t parts).Runs g ls out) : (vBuild P n d t parts).Runs g ls out := by
  revert h; unfold vBuildO vBuild
  rcases hT.ty t with e | ⟨ti, e, e2⟩
  · simp only [e]; exact fun h => h.elim
  · rcases hT.bd t with f | ⟨bd, f, f2⟩
    · simp only [e, f]; exact fun h => h.elim
    · simp only [e, e2, f, f2]; exact fun h => h
theorem vFieldAddr_ref (hT : TabOk P T) {d : Option Tmp} {s : TypeId} {x : Operand} {f : Nat} {ls : List Loc} {out : Out} (h : (vFieldAddrO T n d s x f).Runs g ls out) : (vFieldAddr P n d s x f).Runs g ls out := by
  revert h; unfold vFieldAddrO vFieldAddr
  rcases hT.fd s f with e | ⟨ti, e, e2⟩
  · simp only [e]; exact fun h => h.elim
  · simp only [e, e2]; exact fun h => h
theorem rd_mono {α : Type} {l : Loc} {k' k : Val → Rd α} {x : α} {ls : List Loc} (hk : ∀ v ls, (k' v).Runs g ls x → (k v).Runs g ls x) (h : (rd l k').Runs g ls x) : (rd l k).Runs g ls x := by
  unfold rd at *
  simp only [Rd.Runs] at *
  obtain ⟨ls', e, h⟩ := h
  refine ⟨ls', e, ?_⟩
  cases hg : g l with
  | none => simp [hg, Rd.Runs] at h
  | some v => simp only [hg] at h ⊢; exact hk v _ h
theorem rdR_mono {α : Type} {d : Nat} {k' k : R → Rd α} {x : α} {ls : List Loc} (hk : ∀ v ls, (k' v).Runs g ls x → (k v).Runs g ls x) (h : (rdR d k').Runs g ls x) : (rdR d k).Runs g ls x := by
  refine rd_mono ?_ h
  intro v ls h
  cases v with
  | r y => exact hk _ _ h
  | h y => exact h
  | m a b => exact h
theorem rdH_mono {α : Type} {r j : Nat} {k' k : Hv → Rd α} {x : α} {ls : List Loc} (hk : ∀ v ls, (k' v).Runs g ls x → (k v).Runs g ls x) (h : (rdH r j k').Runs g ls x) : (rdH r j k).Runs g ls x := by
  refine rd_mono ?_ h
  intro v ls h
  cases v with
  | h y => exact hk _ _ h
  | r y => exact h
  | m a b => exact h
theorem ev_mono {α : Type} {y : Operand} {k' k : R → Rd α} {x : α} {ls : List Loc} (hk : ∀ v ls, (k' v).Runs g ls x → (k v).Runs g ls x) (h : (ev y k').Runs g ls x) : (ev y k).Runs g ls x := by
  cases y with
  | tmp t => exact rdR_mono hk h
  | const c => exact hk _ _ h
  | _ => exact h
theorem ev1_mono {α : Type} {y : Operand} {k' k : A → Rd α} {x : α} {ls : List Loc} (hk : ∀ v ls, (k' v).Runs g ls x → (k v).Runs g ls x) (h : (ev1 y k').Runs g ls x) : (ev1 y k).Runs g ls x := by
  refine ev_mono ?_ h
  intro v ls h
  cases v with
  | one a => exact hk _ _ h
  | agg as => exact h
  | tup rs => exact h
theorem evInt_mono {α : Type} {y : Operand} {k' k : IntKind → Int → Rd α} {x : α} {ls : List Loc} (hk : ∀ v w ls, (k' v w).Runs g ls x → (k v w).Runs g ls x) (h : (evInt y k').Runs g ls x) : (evInt y k).Runs g ls x := by
  refine ev1_mono ?_ h
  intro v ls h
  cases v with
  | v y => cases y with
    | int kd m => exact hk _ _ _ h
    | _ => exact h
  | _ => exact h
theorem evBound_mono {α : Type} {y : Option Operand} {dflt : Int} {k' k : Int → Rd α} {x : α} {ls : List Loc} (hk : ∀ v ls, (k' v).Runs g ls x → (k v).Runs g ls x) (h : (evBound y dflt k').Runs g ls x) : (evBound y dflt k).Runs g ls x := by
  cases y with
  | none => exact hk _ _ h
  | some y => exact evInt_mono (fun _ _ ls h => hk _ ls h) h
theorem req_mono {α : Type} {c' c : Prop} {k' k : Rd α} {x : α} {ls : List Loc} (hc : c' → c) (hk : ∀ ls, k'.Runs g ls x → k.Runs g ls x) (h : (Rd.req c' k').Runs g ls x) : (Rd.req c k).Runs g ls x := ⟨hc h.1, hk _ h.2⟩
theorem ite_mono {α : Type} {b : Prop} [Decidable b] {k' k : Rd α} {x : α} {ls : List Loc} (hk : ∀ ls, k'.Runs g ls x → k.Runs g ls x) (h : (if b then k' else Rd.fail).Runs g ls x) : (if b then k else Rd.fail).Runs g ls x := by
  split at h
  · rename_i hb; rw [if_pos hb]; exact hk _ h
  · exact h.elim
theorem vSlice_ref (hT : TabOk P T) {d : Option Tmp} {t : TypeId} {x : Operand} {lo hi mx : Option Operand} {ls : List Loc} {out : Out} (h : (vSliceO T stdO n d t x lo hi mx).Runs g ls out) : (vSlice P n d t x lo hi mx).Runs g ls out := by
  revert h
  unfold vSliceO vSlice
  rcases hT.el t with e | ⟨q, e, e2⟩
  · simp only [e]; exact fun h => h.elim
  simp only [e, e2]
  intro h
  cases mx with
  | some _ => exact h.elim
  | none =>
    ·
      obtain ⟨e, ti, b⟩ := q
      refine ev1_mono ?_ h
      intro a ls h
      cases a with
      | ro sz es =>
        refine ite_mono (fun ls h => ?_) h
        refine evBound_mono (fun l ls h => ?_) h
        refine evBound_mono (fun u ls h => ?_) h
        refine req_mono id (fun ls h => ?_) h
        rw [show (es.take u.toNat).drop l.toNat = (es.drop l.toNat).take (u.toNat - l.toNat) from List.drop_take ..]
        exact h
      | vw r j ver lo m =>
        refine rdH_mono ?_ h
        intro hv ls h
        revert h
        generalize hv.c = c
        intro h
        cases c with
        | own l => cases l with
          | s sz es => exact h
          | v x => exact h
          | g => exact h
        | ro l => exact h
        | gone => exact h
      | _ => exact h

theorem take1_mono {α : Type} {slot : Option Nat} {a : A} {k' k : L → Option Nat → List (Nat × Nat) → Rd α} {x : α} {ls : List Loc} (hk : ∀ l og src ls, (k' l og src).Runs g ls x → (k l og src).Runs g ls x) (h : (take1 slot a k').Runs g ls x) : (take1 slot a k).Runs g ls x := by
  cases slot with
  | none =>
    cases a with
    | v y => exact ite_mono (fun ls h => hk _ _ _ _ h) h
    | _ => exact h
  | some sz =>
    cases a with
    | nl => exact hk _ _ _ _ h
    | vw r j ver lo m =>
      refine rdH_mono ?_ h
      intro hv ls h
      revert h
      generalize hv.c = c
      intro h
      cases c with
      | own l => cases l with
        | s sz' es => exact ite_mono (fun ls h => req_mono id (fun ls h => hk _ _ _ _ h) h) h
        | v x => exact h
        | g => exact h
      | ro l => exact h
      | gone => exact h
    | _ => exact h
theorem takeAll_mono {α : Type} : ∀ {sl : List (Option Nat)} {as : List A} {k' k : List (L × Option Nat) → List (Nat × Nat) → Rd α} {x : α} {ls : List Loc}, (∀ l src ls, (k' l src).Runs g ls x → (k l src).Runs g ls x) → (takeAll sl as k').Runs g ls x → (takeAll sl as k).Runs g ls x
  | [], [], k', k, x, ls, hk, h => hk _ _ _ h
  | [], _ :: _, k', k, x, ls, hk, h => h
  | _ :: _, [], k', k, x, ls, hk, h => h
  | s :: sl, a :: as, k', k, x, ls, hk, h => take1_mono (fun l og src ls h => takeAll_mono (fun _ _ ls h => hk _ _ ls h) h) h
theorem gones_mono {α : Type} : ∀ {xs : List (Nat × Nat)} {k' k : List W → Rd α} {x : α} {ls : List Loc}, (∀ l ls, (k' l).Runs g ls x → (k l).Runs g ls x) → (gones xs k').Runs g ls x → (gones xs k).Runs g ls x
  | [], k', k, x, ls, hk, h => hk _ _ h
  | (r, j) :: xs, k', k, x, ls, hk, h => rdH_mono (fun v ls h => gones_mono (fun _ ls h => hk _ ls h) h) h

theorem setR_row {sz : Nat} {es : List Rec} {p : List (Nat × Nat)} {new : Rec} {y : Rec × Nat} (h : getR (.s sz es) p = some y) : setR (.s sz es) p new = .s sz (rowOf (setR (.s sz es) p new)) := by
  match p with
  | [] => simp [getR] at h
  | [(i, j)] => rfl
  | (i, j) :: q :: p => rfl

theorem getS_some {l : L} {p : List (Nat × Nat)} {sz : Nat} {es : List Rec} (h : getS l p = some (sz, es)) : ∃ rec o, getR l p = some (rec, o) ∧ rec[o]? = some (.s sz es) := by
  unfold getS at h
  split at h
  · rename_i rec o e
    split at h
    · rename_i sz' es' e'
      cases h
      exact ⟨rec, o, e, e'⟩
    · cases h
  · cases h
theorem std_ps {l : L} {p : List (Nat × Nat)} {sz : Nat} {es : List Rec} (h : getS l p = some (sz, es)) : stdO.ps l p = es := by
  show (match getS l p with | some (_, es) => es | none => []) = es
  rw [h]

theorem vLoad_ref (hT : TabOk P T) {d : Option Tmp} {t : TypeId} {x : Operand} {ls : List Loc} {out : Out} (h : (vLoadO T stdO n d t x).Runs g ls out) : (vLoad P n d t x).Runs g ls out := by
  revert h
  unfold vLoadO vLoad
  rcases hT.ty t with e | ⟨ti, e, e2⟩
  · simp only [e]; exact fun h => h.elim
  simp only [e, e2]
  intro h
  ·
    refine ev1_mono ?_ h
    intro a ls h
    cases a with
    | pt r j => simp only [loadLeaves_std] at h; exact h
    | pn r j ver iv p =>
      refine rdH_mono ?_ h
      intro hv ls h
      refine ite_mono (fun ls h => ?_) h
      revert h
      generalize hv.c = c
      intro h
      cases c with
      | own l =>
        obtain ⟨⟨rec, o, e1, e2, e3⟩, h⟩ := h
        simp only [e1, Rd.Runs]
        refine ⟨e2, ?_⟩
        rw [e3]; rw [nestA_std] at h; exact h
      | ro l => exact h
      | gone => exact h
    | rp rec j =>
      simp only at h ⊢
      split at h
      · rename_i hle; exact ⟨hle, h⟩
      · exact h.elim
    | _ => exact h

theorem vStore_ref (hT : TabOk P T) {t : TypeId} {x y : Operand} {ls : List Loc} {out : Out} (h : (vStoreO T stdO t x y).Runs g ls out) : (vStore P t x y).Runs g ls out := by
  revert h
  unfold vStoreO vStore
  rcases hT.ty t with e | ⟨ti, e, e2⟩
  · simp only [e]; exact fun h => h.elim
  simp only [e, e2]
  intro h
  ·
    refine ev1_mono ?_ h
    intro a ls h
    refine ev_mono ?_ h
    intro v ls h
    generalize leavesOf v = lv at h ⊢
    cases lv with
    | none => exact h.elim
    | some as =>
      cases a with
      | pt r j => simp only [putAll_std] at h; exact h
      | pn r j ver iv p =>
        simp only [takeAll_std] at h ⊢
        refine takeAll_mono ?_ h
        intro lts srcs ls h
        refine ite_mono (fun ls h => ?_) h
        refine gones_mono ?_ h
        intro w1 ls h
        refine rdH_mono ?_ h
        intro hv ls h
        refine ite_mono (fun ls h => ?_) h
        revert h
        generalize hv.c = c
        intro h
        cases c with
        | own l =>
          cases l with
          | s sz es =>
            obtain ⟨⟨rec, o, e1, e2⟩, h⟩ := h
            simp only [e1, Rd.Runs]
            refine ⟨e2, ?_⟩
            simp only [Rd.Runs] at h
            rw [h.1, h.2]
            refine ⟨rfl, ?_⟩
            rw [setR_row e1]
            rfl
          | v x => exact h.elim
          | g => exact h.elim
        | ro l => exact h.elim
        | gone => exact h.elim
      | _ => exact h

theorem vIndexAddr_ref (hT : TabOk P T) {d : Option Tmp} {t : TypeId} {x y : Operand} {ls : List Loc} {out : Out} (h : (vIndexAddrO T stdO n d t x y).Runs g ls out) : (vIndexAddr P n d t x y).Runs g ls out := by
  revert h
  unfold vIndexAddrO vIndexAddr
  rcases hT.el t with e | ⟨q, e, e2⟩
  · simp only [e]; exact fun h => h.elim
  simp only [e, e2]
  intro h
  ·
    obtain ⟨e, ti, b⟩ := q
    refine ev1_mono ?_ h
    intro a ls h
    refine evInt_mono ?_ h
    intro kd i ls h
    cases a with
    | ro sz es =>
      refine ite_mono (fun ls h => ?_) h
      obtain ⟨⟨e1, e2, e3⟩, h⟩ := h
      refine ⟨⟨e1, e2⟩, ?_⟩
      rw [e3]; exact h
    | vw r j ver lo m =>
      refine rdH_mono ?_ h
      intro hv ls h
      revert h
      generalize hv.c = c
      intro h
      cases c with
      | own l => cases l <;> exact h
      | ro l => exact h
      | gone => exact h
    | vn r j ver iv p lo m =>
      refine rdH_mono ?_ h
      intro hv ls h
      revert h
      generalize hv.c = c
      intro h
      cases c with
      | own l =>
        refine ite_mono (fun ls h => ?_) h
        obtain ⟨⟨e1, e2, es, e3⟩, h⟩ := h
        obtain ⟨rec, o, f1, f2⟩ := getS_some e3
        simp only [f1, f2, beq_self_eq_true, if_true]
        exact ⟨⟨e1, e2⟩, h⟩
      | ro l => exact h
      | gone => exact h
    | _ => exact h

end
end Go.V
