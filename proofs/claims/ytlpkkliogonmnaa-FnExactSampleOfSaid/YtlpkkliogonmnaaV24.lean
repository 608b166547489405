/-
  The value-level condition generator, part 24: regions whose order is drawn: any order comes to what text order comes to.
-/
import Derived.Test.YtlpkkliogonmnaaV23
set_option linter.all false

namespace Go.V

theorem Run.at {P : Program} {n : Nat} {all : Array Oper} : ∀ {ops : List Oper} {g g' : Gm} {xs : List (List Loc × List W)}, Run P n all ops g xs g' →
    xs.length = ops.length ∧ g' = apps g (xs.flatMap (·.2)) ∧ ∀ j o, ops[j]? = some o → ∃ t ws, xs[j]? = some (t, ws) ∧ Exec P n all o (apps g ((xs.take j).flatMap (·.2))) t ws
  | _, _, _, _, .nil g => ⟨rfl, rfl, fun j o h => by simp at h⟩
  | _, _, _, _, .cons (t := t) (ws := ws) he hr => by
    obtain ⟨h1, h2, h3⟩ := Run.at hr
    refine ⟨by simp [h1], by rw [h2]; simp [apps_append], ?_⟩
    intro j o h
    cases j with
    | zero => simp at h; subst h; exact ⟨t, ws, rfl, by simpa [apps] using he⟩
    | succ j =>
      simp at h
      obtain ⟨t', ws', e1, e2⟩ := h3 j o h
      exact ⟨t', ws', by simpa using e1, by simpa [apps_append] using e2⟩

theorem take_flat (xs : List (List Loc × List W)) : ∀ j, j ≤ xs.length → (xs.take j).flatMap (·.2) = (List.range j).flatMap fun i => (xs.getD i ([], [])).2
  | 0, _ => rfl
  | j + 1, h => by
    rw [List.take_succ, List.range_succ, List.flatMap_append, List.flatMap_append, take_flat xs j (by omega)]
    congr 1
    rw [List.getElem?_eq_getElem (by omega)]
    simp [List.getElem?_eq_getElem (show j < xs.length by omega)]

theorem range_filter_lt {m j : Nat} (h : j ≤ m) : (List.range m).filter (fun i => decide (i < j)) = List.range j := by
  have e1 : List.range (j + (m - j)) = List.range j ++ (List.range (m - j)).map (fun x => j + x) := List.range_add
  rw [show j + (m - j) = m from by omega] at e1
  rw [e1, List.filter_append]
  have e2 : ((List.range (m - j)).map (fun x => j + x)).filter (fun i => decide (i < j)) = [] := by
    rw [List.filter_eq_nil_iff]
    intro a ha
    obtain ⟨x, _, rfl⟩ := List.mem_map.1 ha
    simp
  rw [e2, List.append_nil]
  exact List.filter_eq_self.2 (fun a ha => by simpa using ha)

theorem masks_spec {S : Nat → Prop} {pr : Nat → List Nat} (hcl : ∀ k, S k → ∀ p ∈ pr k, S p) : ∀ (rest : List (List Nat)) (acc : List Nat),
    (∀ k ds, rest[k]? = some ds → pr (acc.length + k) = ds) →
    (∀ j, j < acc.length → ∀ i, (acc.getD j 0).testBit i = true → (∀ p ∈ pr j, S p) → S i) →
    ∀ j, j < (masks rest acc).length → ∀ i, ((masks rest acc).getD j 0).testBit i = true → (∀ p ∈ pr j, S p) → S i
  | [], acc, _, h => h
  | ds :: rest, acc, hp, h => by
    simp only [masks]
    refine masks_spec hcl rest _ ?_ ?_
    · intro k ds' hk
      have := hp (k + 1) ds' (by simpa using hk)
      simp only [List.length_append, List.length_cons, List.length_nil]
      rw [← this]; congr 1; omega
    · intro j hj i hi hS
      simp only [List.length_append, List.length_cons, List.length_nil] at hj
      rcases Nat.lt_or_ge j acc.length with c | c
      · refine h j c i ?_ hS
        rw [List.getD_eq_getElem?_getD, List.getElem?_append_left c] at hi
        rw [List.getD_eq_getElem?_getD]; exact hi
      · have hj' : j = acc.length := by omega
        subst hj'
        have e0 := hp 0 ds rfl
        rw [Nat.add_zero] at e0
        rw [List.getD_eq_getElem?_getD, List.getElem?_append_right (Nat.le_refl _)] at hi
        simp only [Nat.sub_self, List.getElem?_cons_zero, Option.getD_some] at hi
        rw [e0] at hS
        have key : ∀ (ps : List Nat), (∀ p ∈ ps, S p) → (maskOf acc ps).testBit i = true → S i := by
          intro ps
          induction ps with
          | nil => intro _ hb; simp [maskOf] at hb
          | cons p ps ih =>
            intro hps hb
            simp only [maskOf, Nat.testBit_or, Bool.or_eq_true] at hb
            rcases hb with hb | hb | hb
            · rw [Nat.one_shiftLeft, Nat.testBit_two_pow] at hb
              simp at hb
              subst hb
              exact hps _ (by simp)
            · rcases Nat.lt_or_ge p acc.length with c2 | c2
              · exact h p c2 i hb (hcl p (hps p (by simp)))
              · rw [List.getD_eq_getElem?_getD, List.getElem?_eq_none c2] at hb
                simp at hb
            · exact ih (fun q hq => hps q (by simp [hq])) hb
        exact key ds hS hi

theorem okRow_spec {mask : Nat} {y : List Loc × List WK} : ∀ {xs : Tr} {i0 : Nat}, okRow mask y i0 xs = true → ∀ i x, xs[i]? = some x → mask.testBit (i0 + i) = true ∨ (pairBad x y = false ∧ pairBad' x y = false)
  | [], _, _, i, x, hx => by simp at hx
  | x0 :: xs, i0, h, i, x, hx => by
    simp only [okRow, Bool.and_eq_true, Bool.or_eq_true, Bool.not_eq_true', Bool.or_eq_false_iff] at h
    cases i with
    | zero => simp at hx; subst hx; exact h.1
    | succ i =>
      simp at hx
      have := okRow_spec h.2 i x hx
      rw [show i0 + 1 + i = i0 + (i + 1) from by omega] at this
      exact this

theorem okRows_spec : ∀ {ms : List Nat} {xs ys : Tr}, okRows ms xs ys = true → ∀ j y, ys[j]? = some y → ∃ m, ms[j]? = some m ∧ ∀ i x, (xs ++ ys)[i]? = some x → i < xs.length + j → m.testBit i = true ∨ (pairBad x y = false ∧ pairBad' x y = false)
  | [], _, [], _, j, y, hy => by simp at hy
  | _ :: _, _, [], _, j, y, hy => by simp at hy
  | [], _, _ :: _, h, _, _, _ => by simp [okRows] at h
  | m :: ms, xs, y0 :: ys, h, j, y, hy => by
    simp only [okRows, Bool.and_eq_true] at h
    cases j with
    | zero =>
      simp at hy; subst hy
      refine ⟨m, rfl, ?_⟩
      intro i x hx hi
      rw [List.getElem?_append_left (by omega)] at hx
      have := okRow_spec h.1 i x hx
      rwa [Nat.zero_add] at this
    | succ j =>
      simp at hy
      obtain ⟨m', e1, e2⟩ := okRows_spec h.2 j y hy
      refine ⟨m', by simpa using e1, ?_⟩
      intro i x hx hi
      refine e2 i x (by simpa using hx) (by simp; omega)

theorem okBack_spec : ∀ {pss : List (List Nat)} {i0 : Nat}, okBack i0 pss = true → ∀ i ps, pss[i]? = some ps → ∀ p ∈ ps, p < i0 + i
  | [], _, _, i, ps, h => by simp at h
  | q :: pss, i0, h, i, ps, hi => by
    simp only [okBack, Bool.and_eq_true, List.all_eq_true] at h
    cases i with
    | zero =>
      simp at hi; subst hi
      intro p hp
      have := h.1 p hp
      have h2 : p + 1 ≤ i0 := by simpa [Nat.blt] using this
      omega
    | succ i =>
      simp at hi
      intro p hp
      have := okBack_spec h.2 i ps hi p hp
      omega

theorem masks_length : ∀ (rest : List (List Nat)) (acc : List Nat), (masks rest acc).length = acc.length + rest.length
  | [], acc => rfl
  | ds :: rest, acc => by simp only [masks, masks_length rest]; simp; omega

end Go.V
