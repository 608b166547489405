/-
  The value-level condition generator, part 6: a leaf deep in a tree: its place in memory, and what writing there does.
-/
import Derived.Test.YtlpkkliogonmnaaV5
set_option linter.all false

namespace Go.V

theorem RdEs.upd {w : World} {sz : Nat} : ∀ {es : List (List L)} {vs : List Value} {S : List Nat}, RdEs w sz es vs S → ∀ (i : Nat) (e : List L), es[i]? = some e →
    ∃ Sa S1 Sb, S = Sa ++ S1 ++ Sb ∧ e.length = sz ∧ RdRec w e ((vs.drop (i * sz)).take sz) S1 ∧
      ∀ (w' : World) (e' : List L) (vs1 : List Value) (S1' : List Nat), RdRec w' e' vs1 S1' → vs1.length = sz → (∀ c, c ∈ Sa ∨ c ∈ Sb → w'.heap[c]? = w.heap[c]?) →
        RdEs w' sz (es.set i e') (vs.take (i * sz) ++ vs1 ++ vs.drop ((i + 1) * sz)) (Sa ++ S1' ++ Sb)
  | [], vs, S, h, i, e, he => by simp at he
  | e0 :: es, vs, S, h, i, e, he => by
    simp only [RdEs] at h
    obtain ⟨v1, v2, S1, S2, e1, hl, h1, h2, e2⟩ := h
    subst e1 e2
    cases i with
    | zero =>
      simp at he; subst he
      refine ⟨[], S1, S2, by simp, by rw [← h1.length, hl], by simpa [← hl] using h1, ?_⟩
      intro w' e' vs1 S1' hr hlen hk
      simp only [List.set_cons_zero, Nat.zero_mul, List.take_zero, List.nil_append, Nat.zero_add, Nat.one_mul, RdEs]
      exact ⟨vs1, v2, S1', S2, by rw [← hl, List.drop_left], hlen, hr, RdEs.keep sz _ _ _ h2 (fun c hc => hk c (.inr hc)), rfl⟩
    | succ i =>
      simp at he
      obtain ⟨Sa, Sm, Sb, e3, e4, e5, e6⟩ := RdEs.upd h2 i e he
      have hd : ∀ k, (v1 ++ v2).drop ((k + 1) * sz) = v2.drop (k * sz) := by
        intro k
        rw [List.drop_append, List.drop_of_length_le (by rw [hl, Nat.add_mul]; omega), List.nil_append, hl, Nat.add_mul]
        congr 1; omega
      have ht : (v1 ++ v2).take ((i + 1) * sz) = v1 ++ v2.take (i * sz) := by
        rw [List.take_append, List.take_of_length_le (by rw [hl, Nat.add_mul]; omega), hl, Nat.add_mul]
        congr 2; omega
      refine ⟨S1 ++ Sa, Sm, Sb, by simp [e3], e4, by rw [hd]; exact e5, ?_⟩
      intro w' e' vs1 S1' hr hlen hk
      have := e6 w' e' vs1 S1' hr hlen (fun c hc => hk c (by rcases hc with h | h; exact .inl (by simp [h]); exact .inr h))
      rw [ht, hd]
      simp only [List.set_cons_succ, RdEs]
      exact ⟨v1, v2.take (i * sz) ++ vs1 ++ v2.drop ((i + 1) * sz), S1, Sa ++ S1' ++ Sb, by simp, hl, RdRec.keep _ _ _ h1 (fun c hc => hk c (.inl (by simp [hc]))), this, by simp⟩

theorem RdRec.upd {w : World} : ∀ {ls : List L} {vs : List Value} {S : List Nat}, RdRec w ls vs S → ∀ (j : Nat) (l : L), ls[j]? = some l →
    ∃ Sa S1 Sb v, S = Sa ++ S1 ++ Sb ∧ vs[j]? = some v ∧ RdL w l v S1 ∧
      ∀ (w' : World) (l' : L) (S1' : List Nat), RdL w' l' v S1' → (∀ c, c ∈ Sa ∨ c ∈ Sb → w'.heap[c]? = w.heap[c]?) → RdRec w' (ls.set j l') vs (Sa ++ S1' ++ Sb)
  | [], vs, S, h, j, l, hl => by simp at hl
  | l0 :: ls, vs, S, h, j, l, hl => by
    simp only [RdRec] at h
    obtain ⟨v, vs', S1, S2, e1, h1, h2, e2⟩ := h
    subst e1 e2
    cases j with
    | zero =>
      simp at hl; subst hl
      refine ⟨[], S1, S2, v, by simp, by simp, h1, ?_⟩
      intro w' l' S1' hr hk
      simp only [List.set_cons_zero, List.nil_append, RdRec]
      exact ⟨v, vs', S1', S2, rfl, hr, RdRec.keep _ _ _ h2 (fun c hc => hk c (.inr hc)), rfl⟩
    | succ j =>
      simp at hl
      obtain ⟨Sa, Sm, Sb, v', e3, e4, e5, e6⟩ := RdRec.upd h2 j l hl
      refine ⟨S1 ++ Sa, Sm, Sb, v', by simp [e3], by simpa using e4, e5, ?_⟩
      intro w' l' S1' hr hk
      have := e6 w' l' S1' hr (fun c hc => hk c (by rcases hc with h | h; exact .inl (by simp [h]); exact .inr h))
      simp only [List.set_cons_succ, RdRec]
      exact ⟨v, vs', S1, Sa ++ S1' ++ Sb, rfl, RdL.keep _ _ _ h1 (fun c hc => hk c (.inl (by simp [hc]))), this, by simp⟩

/-- Several records after one another. -/
theorem RdRec.append {w : World} : ∀ {l1 l2 : List L} {v1 v2 : List Value} {S1 S2 : List Nat}, RdRec w l1 v1 S1 → RdRec w l2 v2 S2 → RdRec w (l1 ++ l2) (v1 ++ v2) (S1 ++ S2)
  | [], l2, v1, v2, S1, S2, h, k => by simp only [RdRec] at h; obtain ⟨rfl, rfl⟩ := h; simpa using k
  | l :: l1, l2, v1, v2, S1, S2, h, k => by
    simp only [RdRec] at h
    obtain ⟨v, vs', Sa, Sb, rfl, h1, h2, rfl⟩ := h
    simp only [List.cons_append, RdRec]
    exact ⟨v, vs' ++ v2, Sa, Sb ++ S2, rfl, h1, RdRec.append h2 k, by simp⟩
theorem RdRec.split {w : World} : ∀ {l1 l2 : List L} {vs : List Value} {S : List Nat}, RdRec w (l1 ++ l2) vs S → ∃ S1 S2, S = S1 ++ S2 ∧ RdRec w l1 (vs.take l1.length) S1 ∧ RdRec w l2 (vs.drop l1.length) S2
  | [], l2, vs, S, h => ⟨[], S, by simp, by simp [RdRec], by simpa using h⟩
  | l :: l1, l2, vs, S, h => by
    simp only [List.cons_append, RdRec] at h
    obtain ⟨v, vs', Sa, Sb, rfl, h1, h2, rfl⟩ := h
    obtain ⟨S1, S2, rfl, k1, k2⟩ := RdRec.split h2
    refine ⟨Sa ++ S1, S2, by simp, ?_, by simpa using k2⟩
    simp only [List.length_cons, List.take_succ_cons, RdRec]
    exact ⟨v, _, Sa, S1, rfl, h1, k1, rfl⟩
theorem RdEs.append {w : World} {sz : Nat} : ∀ {l1 l2 : List (List L)} {v1 v2 : List Value} {S1 S2 : List Nat}, RdEs w sz l1 v1 S1 → RdEs w sz l2 v2 S2 → RdEs w sz (l1 ++ l2) (v1 ++ v2) (S1 ++ S2)
  | [], l2, v1, v2, S1, S2, h, k => by simp only [RdEs] at h; obtain ⟨rfl, rfl⟩ := h; simpa using k
  | l :: l1, l2, v1, v2, S1, S2, h, k => by
    simp only [RdEs] at h
    obtain ⟨va, vb, Sa, Sb, rfl, hl, h1, h2, rfl⟩ := h
    simp only [List.cons_append, RdEs]
    exact ⟨va, vb ++ v2, Sa, Sb ++ S2, by simp, hl, h1, RdEs.append h2 k, by simp⟩

/-- The tree with another record at the path's end. -/
def putRec : L → List (Nat × Nat) → Rec → L
  | .s sz es, [(i, _)], rec => .s sz (es.set i rec)
  | .s sz es, (i, j) :: p, rec => .s sz (es.set i ((es.getD i []).set j (putRec ((es.getD i []).getD j .g) p rec)))
  | l, _, _ => l

theorem setR_eq : ∀ (p : List (Nat × Nat)) (l : L) (rec : Rec) (j : Nat) (new : Rec), getR l p = some (rec, j) → setR l p new = putRec l p (rec.take j ++ new ++ rec.drop (j + new.length))
  | [], l, rec, j, new, h => by cases l <;> simp [getR] at h
  | [(i, k)], l, rec, j, new, h => by
    cases l with
    | v y => simp [getR] at h
    | g => simp [getR] at h
    | s sz es =>
      simp only [getR, Option.map_eq_some_iff] at h
      obtain ⟨e, h1, h2⟩ := h
      cases h2
      simp [setR, putRec, List.getD, h1]
  | (i, k) :: q :: p, l, rec, j, new, h => by
    cases l with
    | v y => simp [getR] at h
    | g => simp [getR] at h
    | s sz es =>
      simp only [getR] at h
      cases h1 : es[i]? with
      | none => simp [h1] at h
      | some e =>
        simp only [h1] at h
        cases h2 : e[k]? with
        | none => simp [h2] at h
        | some l' =>
          simp only [h2] at h
          have := setR_eq (q :: p) l' rec j new h
          simp only [setR, putRec, List.getD, h1, h2, Option.getD_some, this]

theorem putRec_s (l : L) (p : List (Nat × Nat)) (rec : Rec) : ∀ sz es, l = .s sz es → ∃ es', putRec l p rec = .s sz es' ∧ es'.length = es.length := by
  rintro sz es rfl
  match p with
  | [] => exact ⟨es, rfl, rfl⟩
  | [(i, j)] => exact ⟨_, rfl, by simp⟩
  | (i, j) :: q :: p => exact ⟨_, rfl, by simp⟩

theorem nd_mid {A B C : List Nat} (h : (A ++ B ++ C).Nodup) : B.Nodup ∧ ∀ c, c ∈ B → c ∉ A ∧ c ∉ C := by
  rw [List.nodup_append] at h
  obtain ⟨h1, h2, h3⟩ := h
  rw [List.nodup_append] at h1
  obtain ⟨h4, h5, h6⟩ := h1
  exact ⟨h5, fun c hc => ⟨fun ha => h6 c ha c hc rfl, fun hb => h3 c (by simp [hc]) c hb rfl⟩⟩

/-- The record at a path's end: its block, its part of the footprint; another record put there gives the tree with that record. -/
theorem focus {w : World} : ∀ (p : List (Nat × Nat)) (l : L) (hv : Value) (S : List Nat) (b o : Nat) (rec : Rec) (j0 : Nat), RdL w l hv S → S.Nodup → TAddr w l hv p b o → getR l p = some (rec, j0) →
    ∃ cur ty fz base Sa S1 Sb, w.heap[b]? = some (.cells cur ty fz) ∧ S = Sa ++ S1 ++ Sb ∧ b ∈ Sa ∧ o = base + j0 ∧ base + rec.length ≤ cur.size ∧
      RdRec w rec ((cur.toList.drop base).take rec.length) S1 ∧
      ∀ (w' : World) (cur' : Array Value) (rec' : Rec) (S1' : List Nat), w'.heap[b]? = some (.cells cur' ty fz) → cur'.size = cur.size → (∀ i, i < base ∨ base + rec.length ≤ i → cur'[i]? = cur[i]?) →
        rec'.length = rec.length → RdRec w' rec' ((cur'.toList.drop base).take rec.length) S1' → (∀ c, c ∈ Sa ∨ c ∈ Sb → c ≠ b → w'.heap[c]? = w.heap[c]?) →
        RdL w' (putRec l p rec') hv (Sa ++ S1' ++ Sb)
  | [], l, hv, S, b, o, rec, j0, hr, hn, ht, hg => by cases l <;> simp [TAddr] at ht
  | (i, j) :: p, l, hv, S, b, o, rec, j0, hr, hn, ht, hg => by
    cases l with
    | v y => simp [TAddr] at ht
    | g => simp [TAddr] at ht
    | s sz es =>
      have hr0 := hr
      simp only [RdL] at hr
      obtain ⟨base0, len, cap, q1, q2, q3, q4, q5⟩ := hr
      cases p with
      | nil =>
        simp only [TAddr] at ht
        obtain ⟨b1, off, len, cap, y1, y2, y4, y5⟩ := ht
        rw [y1] at q1; cases q1
        subst y4 y5
        rcases q5 with q5 | ⟨b', off', cur, ty, fz, S', g1, g2, g3, g4, g5⟩
        · exfalso; have := q5.1; omega
        cases g1
        simp only [getR, Option.map_eq_some_iff] at hg
        obtain ⟨e, hg1, hg2⟩ := hg
        cases hg2
        obtain ⟨Sa, S1, Sb, k1, k2, k3, k4⟩ := g4.upd i rec hg1
        have hcs : (i + 1) * sz ≤ len * sz := Nat.mul_le_mul_right _ (by omega)
        have hcs2 : len * sz ≤ cap * sz := Nat.mul_le_mul_right _ q3
        have hi1 : (i + 1) * sz = i * sz + sz := by rw [Nat.add_mul]; omega
        have sl : ∀ c : List Value, (((c.drop off).take (len * sz)).drop (i * sz)).take sz = (c.drop (off + i * sz)).take rec.length := by
          intro c
          apply List.ext_getElem?
          intro k
          rw [k2]
          simp only [List.getElem?_take, List.getElem?_drop]
          by_cases ck : k < sz
          · simp only [ck, if_true]; rw [if_pos (by omega)]; congr 1; omega
          · simp [ck]
        refine ⟨cur, ty, fz, off + i * sz, b :: Sa, S1, Sb, g2, by rw [g5, k1]; simp, by simp, by omega, by rw [k2]; omega, by rw [← sl]; exact k3, ?_⟩
        intro w' cur' rec' S1' hw' hsz hoth hlen hrr hkeep
        have hb : b ∉ Sa ∧ b ∉ Sb := by
          rw [g5, k1] at hn
          simp only [List.nodup_cons, List.mem_append, not_or] at hn
          exact ⟨hn.1.1.1, hn.1.2⟩
        have := k4 w' rec' ((cur'.toList.drop (off + i * sz)).take rec.length) S1' hrr (by simp only [List.length_take, List.length_drop, Array.length_toList, hsz]; omega)
          (fun c hc => hkeep c (by rcases hc with h | h; exact .inl (by simp [h]); exact .inr h) (by rintro rfl; rcases hc with h | h; exact hb.1 h; exact hb.2 h))
        simp only [putRec, RdL]
        refine ⟨_, len, cap, y1, by simpa using q2, q3, q4, .inr ⟨b, off, cur', ty, fz, Sa ++ S1' ++ Sb, rfl, hw', by rw [hsz]; exact g3, ?_, by simp⟩⟩
        have he : (cur'.toList.drop off).take (len * sz) = ((cur.toList.drop off).take (len * sz)).take (i * sz) ++ (cur'.toList.drop (off + i * sz)).take rec.length ++ ((cur.toList.drop off).take (len * sz)).drop ((i + 1) * sz) := by
          apply List.ext_getElem?
          intro k
          have hl1 : (((cur.toList.drop off).take (len * sz)).take (i * sz)).length = i * sz := by simp only [List.length_take, List.length_drop, Array.length_toList]; omega
          have hl2 : ((cur'.toList.drop (off + i * sz)).take rec.length).length = sz := by simp only [List.length_take, List.length_drop, Array.length_toList, hsz]; omega
          rcases Nat.lt_or_ge k (i * sz) with hk | hk
          · rw [List.append_assoc, List.getElem?_append_left (by omega)]
            simp only [List.getElem?_take, List.getElem?_drop]
            rw [if_pos (by omega), if_pos hk, if_pos (by omega)]
            simpa using hoth (off + k) (.inl (by omega))
          · rw [List.append_assoc, List.getElem?_append_right (by omega), hl1]
            rcases Nat.lt_or_ge k (i * sz + sz) with hk2 | hk2
            · rw [List.getElem?_append_left (by omega)]
              simp only [List.getElem?_take, List.getElem?_drop]
              rw [if_pos (by omega), if_pos (by omega)]
              congr 1; omega
            · rw [List.getElem?_append_right (by omega), hl2]
              simp only [List.getElem?_take, List.getElem?_drop]
              by_cases ck : k < len * sz
              · rw [if_pos ck, if_pos (by omega)]
                have e1 : off + ((i + 1) * sz + (k - i * sz - sz)) = off + k := by omega
                rw [e1]
                simpa using hoth (off + k) (.inr (by omega))
              · rw [if_neg ck, if_neg (by omega)]
        rw [he]; exact this
      | cons q p =>
        simp only [TAddr] at ht
        obtain ⟨b1, off, len, cap, y1, y2, l', v', y4, y5, y6⟩ := ht
        rw [y1] at q1; cases q1
        rcases q5 with q5 | ⟨b', off', cur, ty, fz, S', g1, g2, g3, g4, g5⟩
        · exfalso; have := q5.1; omega
        cases g1
        cases hes : es[i]? with
        | none => simp [hes] at y4
        | some e =>
          simp only [hes, Option.bind_some] at y4
          simp only [getR, hes, y4] at hg
          obtain ⟨Sa, S1, Sb, k1, k2, k3, k4⟩ := g4.upd i e hes
          obtain ⟨Ta, T1, Tb, v'', z1, z2, z3, z4⟩ := k3.upd j l' y4
          have hv'' : v'' = v' := by
            have := row_cell z2
            rw [cell_in_row g2, ← Array.getElem?_toList, this] at y5
            exact Option.some.inj y5
          subst hv''
          have hnA : (b1 :: (Sa ++ S1 ++ Sb)).Nodup := by rw [← k1, ← g5]; exact hn
          rw [List.nodup_cons] at hnA
          have n1 := nd_mid hnA.2
          have n2 := nd_mid (z1 ▸ n1.1)
          have hn1 : T1.Nodup := n2.1
          obtain ⟨cur1, ty1, fz1, base, Ua, U1, Ub, m1, m2, m3, m4, m5, m6, m7⟩ := focus (q :: p) l' v'' T1 b o rec j0 z3 hn1 y6 hg
          have hbT : b ∈ T1 := by rw [m2]; simp [m3]
          have hbS : b ∈ S1 := by rw [z1]; simp [hbT]
          have hdist : b ≠ b1 := by rintro rfl; exact hnA.1 (by simp [hbS])
          refine ⟨cur1, ty1, fz1, base, b1 :: Sa ++ (Ta ++ Ua), U1, Ub ++ Tb ++ Sb, m1, by rw [g5, k1, z1, m2]; simp, by simp [m3], m4, m5, m6, ?_⟩
          intro w' cur' rec' S1' hw' hsz hoth hlen hrr hkeep
          have hb1 : w'.heap[b1]? = w.heap[b1]? := hkeep b1 (.inl (by simp)) (Ne.symm hdist)
          have hb : ∀ c, c ∈ Sa ∨ c ∈ Sb ∨ c ∈ Ta ∨ c ∈ Tb → c ≠ b := by
            rintro c hc rfl
            rcases hc with hc | hc | hc | hc
            · exact (n1.2 _ hbS).1 hc
            · exact (n1.2 _ hbS).2 hc
            · exact (n2.2 _ hbT).1 hc
            · exact (n2.2 _ hbT).2 hc
          have i1 := m7 w' cur' rec' S1' hw' hsz hoth hlen hrr (fun c hc hcb => hkeep c (by rcases hc with h | h; exact .inl (by simp [h]); exact .inr (by simp [h])) hcb)
          have i2 := z4 w' _ _ i1 (fun c hc => hkeep c (by rcases hc with h | h; exact .inl (by simp [h]); exact .inr (by simp [h])) (hb c (by rcases hc with h | h; exact .inr (.inr (.inl h)); exact .inr (.inr (.inr h)))))
          have hlrow : ((((cur.toList.drop off).take (len * sz)).drop (i * sz)).take sz).length = sz := by
            rw [k3.length, k2]
          have i3 := k4 w' _ _ _ i2 hlrow (fun c hc => hkeep c (by rcases hc with h | h; exact .inl (by simp [h]); exact .inr (by simp [h])) (hb c (by rcases hc with h | h; exact .inl h; exact .inr (.inl h))))
          simp only [putRec, RdL, List.getD, hes, y4, Option.getD_some]
          refine ⟨_, len, cap, y1, by simpa using q2, q3, q4, .inr ⟨b1, off, cur, ty, fz, Sa ++ (Ta ++ (Ua ++ S1' ++ Ub) ++ Tb) ++ Sb, rfl, by rw [hb1]; exact g2, g3, ?_, ?_⟩⟩
          · have : ((cur.toList.drop off).take (len * sz)).take (i * sz) ++ (((cur.toList.drop off).take (len * sz)).drop (i * sz)).take sz ++ ((cur.toList.drop off).take (len * sz)).drop ((i + 1) * sz) = (cur.toList.drop off).take (len * sz) := by
              rw [List.append_assoc, show (i + 1) * sz = i * sz + sz from by rw [Nat.add_mul]; omega, ← List.drop_drop, List.take_append_drop, List.take_append_drop]
            rw [this] at i3; exact i3
          · simp

end Go.V
