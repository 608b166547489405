/-
  The value-level condition generator, part 30: a law's row out of its function's contract.
-/
import Derived.Test.YtlpkkliogonmnaaV29
set_option linter.all false

namespace Go.V
open Go.ChangeShapes Go.WideShapes Go.ChangeAt Go.RowKit

/-- An argument as a tree of data. -/
def argDV : Bool → Rec → DV
  | true, rec => .agg rec
  | false, [l] => .one l
  | false, rec => .agg rec
def argDVs : List (Bool × List Ty) → List Rec → List DV
  | (b, _) :: sh, r :: rs => argDV b r :: argDVs sh rs
  | _, _ => []
def confs : List (Bool × List Ty) → List Rec → Prop
  | [], [] => True
  | (_, ts) :: sh, r :: rs => confR ts r ∧ confs sh rs
  | _, _ => False
def isStruct (P : Program) (t : TypeId) : Bool := match P.underlying t with
  | some (.struct _) => true
  | _ => false
def shapeA (P : Program) (t : TypeId) : Option (Bool × List Ty) := (shape P 12 t).map (isStruct P t, ·)

section
variable {P : Program} {w : World} {H : Type} {enc : TypeId × Value → H}

theorem read_arg {t : TypeId} {b : Bool} {ts : List Ty} (hs : shapeA P t = some (b, ts)) {base : Nat} {v : Value} (hok : Value.okWide P w .any base t v) {d : DataW H} {ps : List MemPlace}
    (h : DataW.Trod enc P w 0 (fun _ => true) true t v d ps) : ∃ rec S, confR ts rec ∧ RdDV w (argDV b rec) v S := by
  unfold shapeA at hs
  cases hsh : shape P 12 t with
  | none => simp [hsh] at hs
  | some ts' =>
    simp only [hsh, Option.map_some, Option.some.injEq, Prod.mk.injEq] at hs
    obtain ⟨hb, rfl⟩ := hs
    obtain ⟨fuel, h⟩ := h
    obtain ⟨rec, S, h1, h2⟩ := read_trod _ _ _ hsh _ _ _ h
    refine ⟨rec, S, h2, ?_⟩
    unfold isStruct at hb
    cases hu : P.underlying t with
    | none => simp [shape, hu] at hsh
    | some ud =>
      have hcell : ∀ (hv : v.cells = #[v]) (hbf : b = false), ∃ l, rec = [l] ∧ RdDV w (argDV b rec) v S := by
        intro hv hbf
        rw [hv] at h1
        have hl := h1.length
        simp only [List.length_cons, List.length_nil] at hl
        obtain ⟨l, rfl⟩ := List.length_eq_one_iff.1 hl.symm
        refine ⟨l, rfl, ?_⟩
        simp only [RdRec] at h1
        obtain ⟨v', vs', S1, S2, e, q1, ⟨rfl, rfl⟩, rfl⟩ := h1
        simp at e
        obtain ⟨rfl, _⟩ := e
        rw [hbf]
        simpa [argDV, RdDV] using q1
      cases ud with
      | struct fs =>
        simp only [hu] at hb
        subst hb
        simp only [Value.okWide, hu] at hok
        obtain ⟨cs, rfl, _, _⟩ := hok
        exact ⟨cs.toList, by simp, h1⟩
      | int k =>
        simp only [Value.okWide, hu, Cell.okWide, Cell.ok] at hok
        split at hok <;> first | exact hok.elim | skip
        all_goals first | (obtain ⟨l, rfl, h3⟩ := hcell rfl (by simpa [hu] using hb.symm); exact h3) | (rename_i hx _; cases hx)
      | bool =>
        simp only [Value.okWide, hu, Cell.okWide, Cell.ok] at hok
        split at hok <;> first | exact hok.elim | skip
        all_goals first | (obtain ⟨l, rfl, h3⟩ := hcell rfl (by simpa [hu] using hb.symm); exact h3) | (rename_i hx _; cases hx)
      | string =>
        simp only [Value.okWide, hu, Cell.okWide, Cell.ok] at hok
        split at hok <;> first | exact hok.elim | skip
        all_goals first | (obtain ⟨l, rfl, h3⟩ := hcell rfl (by simpa [hu] using hb.symm); exact h3) | (rename_i hx _; cases hx)
      | slice e =>
        simp only [Value.okWide, hu, Cell.okWide, Cell.ok] at hok
        split at hok <;> first | exact hok.elim | skip
        all_goals first | (obtain ⟨l, rfl, h3⟩ := hcell rfl (by simpa [hu] using hb.symm); exact h3) | (rename_i hx _; cases hx)
      | _ => simp [shape, hu] at hsh

theorem read_args : ∀ (ts : List TypeId) (sh : List (Bool × List Ty)) (vs : List Value) (ds : List (DataW H)) (ps : List MemPlace) (base : Nat), (ts.map (shapeA P)) = sh.map some →
    (∀ (j : Nat) t v, ts[j]? = some t → vs[j]? = some v → Value.okWide P w .any base t v) → DataW.TrodAll enc P w 0 (fun _ => true) true ts vs ds ps →
    ∃ recs, confs sh recs ∧ RdArgs (fun _ => True) w (argDVs sh recs) vs
  | [], [], vs, ds, ps, base, _, _, h => by
    obtain ⟨rfl, rfl, rfl⟩ := trodAll_nil h
    exact ⟨[], trivial, rfl⟩
  | [], _ :: _, _, _, _, _, h, _, _ => by simp at h
  | _ :: _, [], _, _, _, _, h, _, _ => by simp at h
  | t :: ts, (b, us) :: sh, vs, ds, ps, base, hsh, hok, h => by
    simp only [List.map_cons, List.cons.injEq] at hsh
    obtain ⟨v, vs', d, ds', p, q, rfl, rfl, rfl, h1, h2⟩ := trodAll_cons h
    obtain ⟨rec, S, r1, r2⟩ := read_arg hsh.1 (hok 0 t v rfl rfl) h1
    obtain ⟨recs, k1, k2⟩ := read_args ts sh vs' ds' q base hsh.2 (fun j t' v' e1 e2 => hok (j + 1) t' v' (by simpa using e1) (by simpa using e2)) h2
    exact ⟨rec :: recs, ⟨r1, k1⟩, v, vs', S, rfl, r2, fun _ _ => trivial, k2⟩

theorem Same.below {w w' : World} (h : Same (fun _ => True) w w') : Below w.heap.size w w' := ⟨h.os, h.tape, h.output, h.size, fun k hk => h.block k hk trivial⟩
theorem Same.keptBut {w w' : World} (h : Same (fun _ => True) w w') (may : MemPlace → Prop) : w.keptBut w' may := by
  refine ⟨h.os, h.output, fun i hi => ?_⟩
  rw [h.block i hi trivial]
  cases w.heap[i]? with
  | none => rfl
  | some o => cases o with
    | cells c t fr => exact ⟨rfl, rfl, rfl, fun _ _ => rfl⟩
    | map es clock => exact .inr ⟨rfl, rfl⟩
    | _ => rfl

theorem trodAll_stays {w' : World} (hl : laidOutB P = true) (hb : Below w.heap.size w w') : ∀ (ts : List TypeId) (vs : List Value) (ds : List (DataW H)) (ps : List MemPlace), (ts.all fun t => P.readableRec t && decide (t < P.types.size)) = true →
    DataW.TrodAll enc P w 0 (fun _ => true) true ts vs ds ps → (∀ x ∈ ps, x.block < w.heap.size) → DataW.TrodAll enc P w' 0 (fun b => decide (b < w.heap.size)) true ts vs ds ps
  | [], vs, ds, ps, _, h, _ => by
    obtain ⟨rfl, rfl, rfl⟩ := trodAll_nil h
    exact trodAll_mk0
  | t :: ts, vs, ds, ps, hr, h, hlt => by
    obtain ⟨v, vs', d, ds', p, q, rfl, rfl, rfl, h1, h2⟩ := trodAll_cons h
    simp only [List.all_cons, Bool.and_eq_true, decide_eq_true_eq] at hr
    exact ⟨p, q, Below.trod hl hr.1.1 hr.1.2 h1 hb (fun x hx => hlt x (by simp [hx])), trodAll_stays hl hb ts vs' ds' q (by simpa using hr.2) h2 (fun x hx => hlt x (by simp [hx])), rfl⟩

/-- **A LAW's CALL, OUT OF THE CONTRACT.** -/
theorem law_calls {f : FuncId} {fn : Func} {s : ChangeSpec} {sh : List (Bool × List Ty)} {tb : TypeId} (hvars : s.vars = []) (hspec : ∀ ds : List (DataW H), ds.length = fn.params.toList.length → s.fn H (ds ++ []) = ⟨[.lit (.bool true)], ds, []⟩)
    (hrt : fn.resultTypes = #[tb]) (htb : P.underlying tb = some .bool) (hl : laidOutB P = true) (hread : (fn.params.toList.all fun t => P.readableRec t && decide (t < P.types.size)) = true)
    (hsh : fn.params.toList.map (shapeA P) = sh.map some) (hctr : ∀ recs, confs sh recs → Ctr P f (argDVs sh recs) [.one (.v (.bool true))])
    {base : Nat} {args : Array Value} {ds gs : List (DataW H)} {before : List MemPlace} (hval : ∀ (j : Nat) t v, fn.params[j]? = some t → args[j]? = some v → Value.okWide P w .any base t v)
    (hW : DataW.Whole enc P fn.params.toList s.vars false w args.toList ds gs before) :
    Calls P f args w fun e w' => ∃ v, e = .returned v ∧ s.post enc P fn false true false false w args v w' := by
  have hW' := hW
  obtain ⟨p, q, hA, hV, rfl, hfz, hnd⟩ := hW
  rw [hvars] at hV
  obtain ⟨rfl, rfl⟩ := trodVars_none hV
  obtain ⟨recs, h1, h2⟩ := read_args fn.params.toList sh args.toList ds p base hsh (fun j t v e1 e2 => hval j t v (by simpa using e1) (by simpa using e2)) hA
  have hc := hctr recs h1 w args.toList h2
  rw [Array.toArray_toList] at hc
  refine hc.mono ?_
  rintro e w' ⟨v, S, rfl, hr, _, _, hsame⟩
  simp only [RdRes, RdDV, RdL] at hr
  obtain ⟨rfl, _, _⟩ := hr
  have hlen : ∀ (ts : List TypeId) (vs : List Value) (ds : List (DataW H)) (ps : List MemPlace), DataW.TrodAll enc P w 0 (fun _ => true) true ts vs ds ps → ds.length = ts.length := by
    intro ts
    induction ts with
    | nil => intro vs ds ps h; obtain ⟨_, rfl, _⟩ := trodAll_nil h; rfl
    | cons t ts ih => intro vs ds ps h; obtain ⟨v, vs', d, ds', p, q, rfl, rfl, rfl, _, h2⟩ := trodAll_cons h; simp [ih _ _ _ h2]
  have e1 : s.fn H (ds ++ []) = ⟨[.lit (.bool true)], ds, []⟩ := hspec ds (hlen _ _ _ _ hA)
  refine ⟨_, rfl, ds, [], p ++ [], [], p, [], hW', ?_, ?_, ?_, hsame.keptBut _, fun h => by cases h⟩
  · rw [e1, hrt]
    exact trodAll_mk1 (shut_bool htb true)
  · rw [e1]
    exact trodAll_stays hl hsame.below _ _ _ _ hread hA (fun x hx => hW'.lt x (by simpa using hx))
  · rw [e1, hvars]; rfl

end
end Go.V
