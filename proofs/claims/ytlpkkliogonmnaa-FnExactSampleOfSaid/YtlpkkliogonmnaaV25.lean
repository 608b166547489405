/-
  The value-level condition generator, part 25: regions whose order is drawn, joined.
-/
import Derived.Test.YtlpkkliogonmnaaV24
set_option linter.all false

namespace Go.V

def lst (listed : Array Bool) (i : Nat) : Bool := listed.getD i false

theorem lst_set {listed : Array Bool} {i k : Nat} (hi : i < listed.size) : lst (listed.setIfInBounds i true) k = (lst listed k || decide (k = i)) := by
  unfold lst
  by_cases e : k = i
  · subst e; simp [hi]
  · rw [getD_set_ne false (Ne.symm e)]; simp [e]

def preds (ops : Array Oper) (k : Nat) : List Nat := match ops[k]? with
  | some o => predsOf o
  | none => []

theorem mem_predsOf {o : Oper} {p : Nat} : p ∈ predsOf o ↔ ∃ e ∈ o.after, Region.binds .any e = true ∧ e.on = p := by
  unfold predsOf
  simp only [List.mem_filterMap, Array.mem_toList_iff]
  constructor
  · rintro ⟨e, he, h⟩
    split at h
    · rename_i hb; cases h; exact ⟨e, he, hb, rfl⟩
    · cases h
  · rintro ⟨e, he, hb, rfl⟩
    exact ⟨e, he, by simp [hb]⟩

theorem touches_iff {ws : List W} {l : Loc} : touches ws l = true ↔ ∃ k ∈ ws.map keyOf, k.hits l = true := by
  unfold touches
  simp only [List.any_eq_true, List.mem_map]
  constructor
  · rintro ⟨x, h1, h2⟩; exact ⟨_, ⟨x, h1, rfl⟩, h2⟩
  · rintro ⟨k, ⟨x, h1, rfl⟩, h2⟩; exact ⟨x, h1, h2⟩

section
variable {P : Program} {cx : Cx} {ops : Array Oper} {Q : Exit → Act → World → Prop} {g0 gm : Gm} {xs : List (List Loc × List W)}

theorem order_back {tr : Tr} (hok : okOrder ops tr = true) {j p : Nat} (hp : p ∈ preds ops j) : p < j := by
  simp only [okOrder, Bool.and_eq_true] at hok
  unfold preds at hp
  cases ho : ops[j]? with
  | none => simp [ho] at hp
  | some o =>
    simp only [ho] at hp
    have := okBack_spec hok.1 j (predsOf o) (by simp [ho]) p hp
    omega

theorem order_pair {tr : Tr} (hok : okOrder ops tr = true) {S : Nat → Prop} (hcl : ∀ k, S k → ∀ p ∈ preds ops k, S p) {i j : Nat} {x y : List Loc × List WK} (hij : i < j) (hx : tr[i]? = some x) (hy : tr[j]? = some y)
    (hS : ∀ p ∈ preds ops j, S p) (hbad : pairBad x y = true ∨ pairBad' x y = true) : S i := by
  simp only [okOrder, Bool.and_eq_true] at hok
  obtain ⟨m, e1, e2⟩ := okRows_spec hok.2 j y hy
  have e3 := e2 i x (by simpa using hx) (by simpa using hij)
  rcases e3 with e3 | ⟨e3, e4⟩
  · refine masks_spec (S := S) (pr := preds ops) hcl (ops.toList.map predsOf) [] ?_ ?_ j (List.getElem?_eq_some_iff.1 e1).1 i ?_ hS
    · intro k ds hk
      simp only [List.getElem?_map, Option.map_eq_some_iff] at hk
      obtain ⟨o, ho, rfl⟩ := hk
      rw [Array.getElem?_toList] at ho
      simp [preds, ho]
    · intro j hj; simp at hj
    · rw [List.getD_eq_getElem?_getD, e1]; exact e3
  · rcases hbad with h | h
    · rw [e3] at h; cases h
    · rw [e4] at h; cases h

theorem draw_sound (hrun : Run P cx.n ops ops.toList g0 xs gm) (hok : okOrder ops (xs.map fun x => (x.1, x.2.map keyOf)) = true) (hQ : ∀ a' w', Sim cx gm a' w' → Q .normal a' w') :
    ∀ (fuel : Nat) (listed : Array Bool) (a : Act) (w : World), listed.size = ops.size → ((List.range ops.size).filter fun i => !lst listed i).length ≤ fuel →
      (∀ k, lst listed k = true → ∀ p ∈ preds ops k, lst listed p = true) →
      Sim cx (apps g0 (sel (fun i => (xs.getD i ([], [])).2) (lst listed) ops.size)) a w → wpAny P .any ops Q fuel listed a w := by
  obtain ⟨hlen, hgm, hat⟩ := Run.at hrun
  have hlen' : xs.length = ops.size := by simpa using hlen
  let wsOf : Nat → List W := fun i => (xs.getD i ([], [])).2
  have hall : gm = apps g0 (sel wsOf (fun _ => true) ops.size) := by
    have := take_flat xs xs.length (Nat.le_refl _)
    rw [List.take_length] at this
    rw [hgm, this, hlen']
    unfold sel
    rw [List.filter_eq_self.2 (fun _ _ => rfl)]
  have hex : ∀ j, j < ops.size → ∃ o t, ops[j]? = some o ∧ xs[j]? = some (t, wsOf j) ∧ Exec P cx.n ops o (apps g0 (sel wsOf (fun i => decide (i < j)) ops.size)) t (wsOf j) := by
    intro j hj
    have ho : ops.toList[j]? = some ops[j] := by simp [hj]
    obtain ⟨t, ws, e1, e2⟩ := hat j _ ho
    have hw : wsOf j = ws := by simp [wsOf, List.getD_eq_getElem?_getD, e1]
    refine ⟨ops[j], t, by simp [hj], by rw [hw]; exact e1, ?_⟩
    rw [hw]
    have e3 := take_flat xs j (by omega)
    unfold sel
    rw [range_filter_lt (by omega)]
    rw [e3] at e2
    exact e2
  have full : ∀ (listed : Array Bool) (a : Act) (w : World), (∀ j, j < ops.size → lst listed j = true) → Sim cx (apps g0 (sel wsOf (lst listed) ops.size)) a w → Q .normal a w := by
    intro listed a w hl hS
    refine hQ a w ?_
    rw [hall]
    have : sel wsOf (lst listed) ops.size = sel wsOf (fun _ => true) ops.size := by
      unfold sel
      congr 1
      exact List.filter_congr (fun i hi => hl i (List.mem_range.1 hi))
    rw [← this]; exact hS
  have noready : ∀ (listed : Array Bool), listed.size = ops.size → Region.ready .any ops listed = [] → ∀ j, j < ops.size → lst listed j = true := by
    intro listed hsz hr j
    induction j using Nat.strongRecOn with
    | _ j ih =>
      intro hj
      cases hl : lst listed j with
      | true => rfl
      | false =>
        exfalso
        have : j ∈ Region.ready .any ops listed := by
          rw [mem_ready]
          refine ⟨?_, ops[j], by simp [hj], ?_⟩
          · unfold lst at hl
            simp only [Array.getD_eq_getD_getElem?] at hl ⊢
            rw [Array.getElem?_eq_getElem (by omega)] at hl ⊢
            simpa using hl
          · intro e he hb
            have hp : e.on ∈ preds ops j := by
              simp only [preds, hj, Array.getElem?_eq_getElem]
              exact mem_predsOf.2 ⟨e, he, hb, rfl⟩
            have hlt := order_back hok hp
            exact ih e.on hlt (by omega)
        rw [hr] at this
        cases this
  intro fuel
  induction fuel with
  | zero =>
    intro listed a w hsz hf hcl hS
    have hnil : (List.range ops.size).filter (fun i => !lst listed i) = [] := List.eq_nil_of_length_eq_zero (by omega)
    have hl : ∀ j, j < ops.size → lst listed j = true := by
      intro j hj
      have := List.filter_eq_nil_iff.1 hnil j (List.mem_range.2 hj)
      simpa using this
    refine ⟨?_, full listed a w hl hS⟩
    rw [List.eq_nil_iff_forall_not_mem]
    intro j hj
    obtain ⟨h1, o, ho, _⟩ := mem_ready.1 hj
    have hjlt := (Array.getElem?_eq_some_iff.1 ho).1
    have := hl j hjlt
    unfold lst at this
    simp only [Array.getD_eq_getD_getElem?] at h1 this
    rw [Array.getElem?_eq_getElem (by omega)] at h1 this
    simp only [Option.getD_some] at h1 this
    rw [h1] at this; cases this
  | succ fuel ih =>
    intro listed a w hsz hf hcl hS
    refine ⟨fun hr => full listed a w (noready listed hsz hr) hS, ?_⟩
    intro i hi
    obtain ⟨h1, o, ho, hpre⟩ := mem_ready.1 hi
    have hilt := (Array.getElem?_eq_some_iff.1 ho).1
    have hni : lst listed i = false := by
      unfold lst
      simp only [Array.getD_eq_getD_getElem?] at h1 ⊢
      rw [Array.getElem?_eq_getElem (by omega)] at h1 ⊢
      simpa using h1
    have hpi : ∀ p ∈ preds ops i, lst listed p = true := by
      intro p hp
      simp only [preds, ho] at hp
      obtain ⟨e, he, hb, rfl⟩ := mem_predsOf.1 hp
      exact hpre e he hb
    obtain ⟨o', t, ho', hxs, hexec⟩ := hex i hilt
    rw [ho] at ho'; cases ho'
    have htr : ∀ k t', xs[k]? = some (t', wsOf k) → (xs.map fun x => (x.1, x.2.map keyOf))[k]? = some (t', (wsOf k).map keyOf) := by
      intro k t' h; simp [h]
    have later : ∀ k, i < k → k < ops.size → ∀ l, touches (wsOf k) l = true → (touches (wsOf i) l = true ∨ l ∈ t) → lst listed k = false := by
      intro k hik hk l hl hc
      cases hlk : lst listed k with
      | false => rfl
      | true =>
        exfalso
        obtain ⟨o2, t2, ho2, hxs2, _⟩ := hex k hk
        have := order_pair hok (S := fun k => lst listed k = true) hcl hik (htr i t hxs) (htr k t2 hxs2) (hcl k hlk) (by
          obtain ⟨q, hq1, hq2⟩ := touches_iff.1 hl
          rcases hc with hc | hc
          · obtain ⟨q', hq3, hq4⟩ := touches_iff.1 hc
            refine .inl ?_
            simp only [pairBad, List.any_eq_true, Bool.or_eq_true]
            exact ⟨q', hq3, .inr ⟨q, hq1, clash_of hq4 hq2⟩⟩
          · refine .inr ?_
            simp only [pairBad', List.any_eq_true]
            exact ⟨q, hq1, l, hc, hq2⟩)
        rw [hni] at this; cases this
    have hexec' : Exec P cx.n ops o (apps g0 (sel wsOf (lst listed) ops.size)) t (wsOf i) := by
      refine hexec.congr ?_
      intro l hl
      refine sel_congr ?_
      intro k hk htk
      rcases Nat.lt_trichotomy k i with c | c | c
      · simp only [c, decide_true]
        obtain ⟨o2, t2, ho2, hxs2, _⟩ := hex k hk
        refine order_pair hok (S := fun k => lst listed k = true) hcl c (htr k t2 hxs2) (htr i t hxs) hpi (.inl ?_)
        obtain ⟨q, hq1, hq2⟩ := touches_iff.1 htk
        simp only [pairBad, List.any_eq_true, Bool.or_eq_true]
        exact ⟨q, hq1, .inl ⟨l, hl, hq2⟩⟩
      · subst c; simp [hni]
      · rw [later k c hk l htk (.inr hl)]
        simp; omega
    show wpOp P ops Q i _ a w
    unfold wpOp
    simp only [ho]
    refine hexec'.sound hS ?_
    intro a' w' hs'
    refine ih _ a' w' (by simp [hsz]) ?_ ?_ ?_
    · have e : (List.range ops.size).filter (fun k => !lst (listed.setIfInBounds i true) k) = ((List.range ops.size).filter (fun k => !lst listed k)).filter (fun k => decide (k ≠ i)) := by
        rw [List.filter_filter]
        refine List.filter_congr ?_
        intro k _
        rw [lst_set (by omega)]
        by_cases hki : k = i <;> simp [hki]
      have hlt : (((List.range ops.size).filter (fun k => !lst listed k)).filter (fun k => decide (k ≠ i))).length < ((List.range ops.size).filter (fun k => !lst listed k)).length := by
        rw [List.length_filter_lt_length_iff_exists]
        exact ⟨i, List.mem_filter.2 ⟨List.mem_range.2 hilt, by simp [hni]⟩, by simp⟩
      rw [e]; omega
    · intro k hk p hp
      rw [lst_set (by omega)] at hk ⊢
      rw [Bool.or_eq_true] at hk
      rcases hk with hk | hk
      · rw [hcl k hk p hp]; rfl
      · simp at hk; subst hk; rw [hpi p hp]; rfl
    · have e : apps (apps g0 (sel wsOf (lst listed) ops.size)) (wsOf i) = apps g0 (sel wsOf (lst (listed.setIfInBounds i true)) ops.size) := by
        funext l
        cases ht : touches (wsOf i) l with
        | true =>
          symm
          refine sel_last hilt ?_ ht ?_
          · rw [lst_set (by omega)]; simp
          · intro k hik hk htk
            rw [lst_set (by omega), later k hik hk l htk (.inl ht)]
            simp; omega
        | false =>
          rw [apps_other ht]
          refine sel_congr ?_
          intro k hk htk
          rw [lst_set (by omega)]
          have : k ≠ i := fun e => by rw [e, ht] at htk; cases htk
          simp [this]
      rw [← e]; exact hs'

/-- **A REGION WHOSE ORDER IS DRAWN.** -/
theorem region_draw {id : Nat} {a : Act} {w : World} (hm : P.follows .mixedOrders = true) (hrun : Run P cx.n ops ops.toList g0 xs gm) (hok : okOrder ops (xs.map fun x => (x.1, x.2.map keyOf)) = true)
    (hQ : ∀ a' w', Sim cx gm a' w' → Q .normal a' w') (hS : ∀ a w, Sim cx g0 a w → Sim cx g0 a { w with drawn := w.drawn + 1 }) (hs : Sim cx g0 a w) : (Code.region id ops true).wp P Q a w := by
  refine wp_region_any hm ?_
  refine draw_sound hrun hok hQ ops.size _ a _ (by simp) ?_ ?_ ?_
  · exact Nat.le_trans (List.length_filter_le _ _) (by simp)
  · intro k hk
    exfalso
    unfold lst at hk
    simp only [Array.getD_eq_getD_getElem?, Array.getElem?_replicate] at hk
    split at hk <;> simp at hk
  · have : sel (fun i => (xs.getD i ([], [])).2) (lst (Array.replicate ops.size false)) ops.size = [] := by
      unfold sel
      have : (List.range ops.size).filter (lst (Array.replicate ops.size false)) = [] := by
        rw [List.filter_eq_nil_iff]
        intro k hk
        have hk := List.mem_range.1 hk
        simp [lst, hk]
      rw [this]; rfl
    rw [this]
    exact hS a w hs

end
end Go.V
