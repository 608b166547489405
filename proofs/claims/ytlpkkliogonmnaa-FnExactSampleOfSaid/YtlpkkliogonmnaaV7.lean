/-
  The value-level condition generator, part 7: the operations that only read.
-/
import Derived.Test.YtlpkkliogonmnaaV6
set_option linter.all false

namespace Go.V

theorem add_lit (b o k : Nat) : (⟨b, o, none⟩ : Addr).add k = ⟨b, o + k, none⟩ := by unfold Addr.add; split <;> simp_all

theorem zipZ_spec : ∀ {sl : List (Option Nat)} {xs : List Value} {zr : Rec}, zipZ sl xs = some zr → (∀ w, RdRec w zr xs []) ∧ xs.length = zr.length ∧ sl.length = zr.length
  | [], [], zr, h => by simp [zipZ] at h; subst h; simp [RdRec]
  | none :: sl, [], zr, h => by simp [zipZ] at h
  | some sz :: sl, [], zr, h => by simp [zipZ] at h
  | [], v :: xs, zr, h => by simp [zipZ] at h
  | none :: sl, v :: xs, zr, h => by
    simp only [zipZ] at h
    split at h
    · rename_i hs
      simp only [Option.map_eq_some_iff] at h
      obtain ⟨zr', h1, rfl⟩ := h
      obtain ⟨k1, k2, k3⟩ := zipZ_spec h1
      exact ⟨fun w => by simp only [RdRec]; exact ⟨v, xs, [], [], rfl, by simp [RdL, hs], k1 w, rfl⟩, by simp [k2], by simp [k3]⟩
    · cases h
  | some sz :: sl, v :: xs, zr, h => by
    unfold zipZ at h
    split at h
    · rename_i e1 e2; cases e1
    · rename_i e1 e2; cases e1
    · rename_i sz' ss xs' e1 e2
      cases e1; cases e2
      simp only [Option.map_eq_some_iff] at h
      obtain ⟨zr', h1, rfl⟩ := h
      obtain ⟨k1, k2, k3⟩ := zipZ_spec h1
      exact ⟨fun w => by
        simp only [RdRec]
        exact ⟨_, xs, [], [], rfl, by simp only [RdL]; exact ⟨none, 0, 0, rfl, rfl, Nat.le_refl _, Nat.zero_le _, .inl (by simp)⟩, k1 w, rfl⟩, by simp [k2], by simp [k3]⟩
    · cases h

theorem tyI_spec {P : Program} {t : TypeId} {ti : TI} (h : tyI P t = some ti) :
    ∃ i z, P.info? t = some i ∧ i.zero = some z ∧ i.size = ti.zero.length ∧ zipZ ti.slots z.cells.toList = some ti.zero ∧ ∀ w, (isAgg t).run P w = .ok ti.agg w := by
  unfold tyI at h
  split at h
  · rename_i i d sl e1 e2 e3
    split at h
    · rename_i z e4
      split at h
      · rename_i zr e5
        split at h
        · rename_i e6
          cases h
          refine ⟨i, z, e1, e4, e6.symm, e5, fun w => ?_⟩
          cases d <;> first
            | (simp [isAgg, run_underlying e2]; done)
            | (simp [slots, e2] at e3)
        · cases h
      · cases h
    · cases h
  · cases h

theorem run_sizeOf {P : Program} {t : TypeId} {i : TypeInfo} (h : P.info? t = some i) (w : World) : (sizeOf t).run P w = .ok i.size w := by simp [sizeOf, typeInfo, h]

theorem run_loadVar' {P : Program} {t : TypeId} {ti : TI} (h : tyI P t = some ti) (w : World) (b o : Nat) (vs : List Value) (hl : vs.length = ti.zero.length) (h1 : ti.agg = false → vs.length = 1)
    (hc : ∀ k v, vs[k]? = some v → w.cell? ⟨b, o + k, none⟩ = some v) : (loadVar t ⟨b, o, none⟩).run P w = .ok (if ti.agg then .agg vs.toArray else vs.getD 0 undef) w := by
  obtain ⟨i, z, e1, e2, e3, e4, e5⟩ := tyI_spec h
  unfold loadVar
  simp only [Sem.run_bind, e5, Result.andThen_ok]
  cases ha : ti.agg with
  | true =>
    simp only [if_true, Sem.run_bind, run_sizeOf e1, Result.andThen_ok, e3, ← hl]
    rw [run_loadCells_list w ⟨b, o, none⟩ vs (fun j v hj => by rw [add_lit]; exact hc j v hj)]
    simp
  | false =>
    have := h1 ha
    match vs, this with
    | [v], _ =>
      have := hc 0 v (by simp)
      simp only [Nat.add_zero] at this
      simp [this]

theorem row_cells {w : World} {b : Nat} {cur : Array Value} {ty : TypeId} {fz : Nat × Nat} (h : w.heap[b]? = some (.cells cur ty fz)) {base n k : Nat} {v : Value}
    (hk : ((cur.toList.drop base).take n)[k]? = some v) : w.cell? ⟨b, base + k, none⟩ = some v := by
  rw [cell_in_row h]
  rw [List.getElem?_take] at hk
  split at hk
  · rw [List.getElem?_drop, Array.getElem?_toList] at hk; exact hk
  · cases hk

theorem ViewOf.full {w : World} {sz : Nat} {es : List Rec} {v : Value} {S : List Nat} (h : RdL w (.s sz es) v S) : ViewOf v sz 0 es.length v := by
  simp only [RdL] at h
  obtain ⟨base, len, cap, q1, q2, q3, q4, q5⟩ := h
  refine ⟨base, len, cap, base, cap, q1, by rw [q1, q2], by omega, Nat.le_refl _, fun _ _ => rfl, ?_⟩
  rcases q5 with ⟨e2, _⟩ | ⟨b, off, cur, ty, fz, S', e1, e2, e3, e4, e5⟩
  · exact .inl ⟨e2, e2⟩
  · exact .inr ⟨b, off, off, e1, e1, Nat.le_refl _, fun _ => by omega⟩

theorem leafA_ok {cx : Cx} {g : Gm} {G : Gh} {a : Act} {w : World} (hS : SimG cx G g a w) {r j : Nat} {h : Hv} (hh : gl g r j = some h) : AOk (gl g) G w (leafA r j h) (G.val r j) := by
  have hok := hS.hok hh
  unfold leafA
  cases hc : h.c with
  | own l =>
    simp only [HOk, hc] at hok
    cases l with
    | v y => have := hok.1; simp only [RdL] at this; exact this.1
    | g => trivial
    | s sz es =>
      refine ⟨h, hh, Nat.le_refl _, fun _ sz' es' e => ?_⟩
      rw [hc] at e; cases e
      exact ⟨by omega, ViewOf.full hok.1⟩
  | ro l =>
    simp only [HOk, hc] at hok
    obtain ⟨S, h1, h2⟩ := hok
    cases l with
    | v y => simp only [RdL] at h1; exact h1.1
    | g => trivial
    | s sz es => exact ⟨S, h1, h2⟩
  | gone => trivial

theorem loadLeaves_sound {cx : Cx} {g : Gm} {G : Gh} {a : Act} {w : World} (hS : SimG cx G g a w) {α : Type} (r : Nat) : ∀ (m j : Nat) (k : List A → Rd α) (ls : List Loc) (o : α),
    (loadLeaves r j m k).Runs g ls o → ∃ as ls', AOks (gl g) G w as ((List.range m).map fun i => G.val r (j + i)) ∧ (∀ i, i < m → ∃ h, gl g r (j + i) = some h) ∧ (k as).Runs g ls' o
  | 0, j, k, ls, o, h => ⟨[], ls, by simp [AOks], fun i hi => by omega, by simpa [loadLeaves] using h⟩
  | m + 1, j, k, ls, o, h => by
    simp only [loadLeaves] at h
    obtain ⟨h0, ls', e1, _, h⟩ := rdH_sound h
    obtain ⟨as, ls2, e2, e3, e4⟩ := loadLeaves_sound hS r m (j + 1) _ ls' o h
    refine ⟨leafA r j h0 :: as, ls2, ?_, ?_, e4⟩
    · rw [List.range_succ_eq_map, List.map_cons, List.map_map]
      simp only [AOks]
      refine ⟨_, _, rfl, by simpa using leafA_ok hS e1, ?_⟩
      have : (fun i => G.val r (j + i)) ∘ Nat.succ = fun i => G.val r (j + 1 + i) := by funext i; simp [Nat.add_assoc, Nat.add_comm 1 i]
      rw [this]; exact e2
    · intro i hi
      cases i with
      | zero => exact ⟨h0, by simpa using e1⟩
      | succ i => obtain ⟨h', q⟩ := e3 i (by omega); exact ⟨h', by rw [← q]; congr 1; omega⟩

theorem AOks.length {γ : Nat → Nat → Option Hv} {G : Gh} {w : World} : ∀ {as : List A} {vs : List Value}, AOks γ G w as vs → vs.length = as.length
  | [], vs, h => by simp only [AOks] at h; simp [h]
  | a :: as, vs, h => by
    obtain ⟨v, vs', e, _, h2⟩ := h
    simp [e, AOks.length h2]

/-- What a load hands to a register. -/
theorem mkR_sound {P : Program} {o : Oper} {cx : Cx} {G : Gh} {g : Gm} {a : Act} {w : World} {ls : List Loc} {ws : List W} {ti : TI} {as : List A} {vs : List Value} (hS : SimG cx G g a w)
    (h : (mkR ti as (toReg cx.n o.dst)).Runs g ls (.ws ws)) (hx : AOks (gl g) G w as vs)
    (hr : (ti.agg = false → vs.length = 1) → (execOp a.eval o).run P w = .ok (.value (if ti.agg then .agg vs.toArray else vs.getD 0 undef)) w)
    {K : Act → World → Prop} {Q : Exit → Act → World → Prop} (hk : ∀ a' w', Sim cx (apps g ws) a' w' → K a' w') : o.wp P a w K Q := by
  unfold mkR at h
  cases ha : ti.agg with
  | true =>
    simp only [ha, if_true] at h
    exact toReg_sound hS h (by simp only [ROk]; exact ⟨vs, rfl, hx⟩) (by simpa [ha] using hr (by simp [ha])) hk
  | false =>
    simp only [ha, Bool.false_eq_true, if_false] at h
    split at h
    · rename_i x
      obtain ⟨v, vs', e, h1, h2⟩ := hx
      simp only [AOks] at h2; subst h2
      refine toReg_sound hS h (v := v) (by simp only [ROk]; exact h1) ?_ hk
      have := hr (by simp [e])
      simpa [ha, e] using this
    · simp [Rd.Runs] at h

theorem run_load_op {P : Program} {o : Oper} {a : Act} {w : World} {t : TypeId} {x : Operand} (ho : o.op = .load t x) {b off : Nat} (he : a.eval x = .pointer (some ⟨b, off, none⟩)) {v : Value}
    (hr : (loadVar t ⟨b, off, none⟩).run P w = .ok v w) : (execOp a.eval o).run P w = .ok (.value v) w := by
  unfold execOp
  simp [ho, Instr.loadAt, he, Instr.sureAddr, hr]

theorem getR_adv : ∀ (p : List (Nat × Nat)) (l : L) (rec : Rec) (j k : Nat), getR l p = some (rec, j) → getR l (adv p k) = some (rec, j + k)
  | [], l, rec, j, k, h => by cases l <;> simp [getR] at h
  | [(i, m)], l, rec, j, k, h => by
    cases l with
    | v y => simp [getR] at h
    | g => simp [getR] at h
    | s sz es =>
      simp only [getR, Option.map_eq_some_iff] at h
      obtain ⟨e, h1, h2⟩ := h
      cases h2
      simp [adv, getR, h1]
  | (i, m) :: q :: p, l, rec, j, k, h => by
    cases l with
    | v y => simp [getR] at h
    | g => simp [getR] at h
    | s sz es =>
      simp only [getR] at h
      cases h1 : es[i]? with
      | none => simp [h1] at h
      | some e =>
        simp only [h1] at h
        cases h2 : e[m]? with
        | none => simp [h2] at h
        | some l' =>
          simp only [h2] at h
          have ih := getR_adv (q :: p) l' rec j k h
          cases p with
          | nil => obtain ⟨q1, q2⟩ := q; simp only [adv] at ih ⊢; simp only [getR, h1, h2]; exact ih
          | cons q' p => simp only [adv] at ih ⊢; simp only [getR, h1, h2]; exact ih

theorem TAddr_adv {w : World} : ∀ (p : List (Nat × Nat)) (l : L) (hv : Value) (b o k : Nat), TAddr w l hv p b o → TAddr w l hv (adv p k) b (o + k)
  | [], l, hv, b, o, k, h => by cases l <;> simp [TAddr] at h
  | [(i, m)], l, hv, b, o, k, h => by
    cases l with
    | v y => simp [TAddr] at h
    | g => simp [TAddr] at h
    | s sz es =>
      simp only [TAddr, adv] at h ⊢
      obtain ⟨b1, off, len, cap, e1, e2, e3, e4⟩ := h
      exact ⟨b1, off, len, cap, e1, e2, e3, by omega⟩
  | (i, m) :: q :: p, l, hv, b, o, k, h => by
    cases l with
    | v y => simp [TAddr] at h
    | g => simp [TAddr] at h
    | s sz es =>
      simp only [TAddr] at h
      obtain ⟨b1, off, len, cap, e1, e2, l', v', e3, e4, h⟩ := h
      have ih := TAddr_adv (q :: p) l' v' b o k h
      cases p with
      | nil => obtain ⟨q1, q2⟩ := q; simp only [adv] at ih ⊢; simp only [TAddr] at ih ⊢; exact ⟨b1, off, len, cap, e1, e2, l', v', e3, e4, ih⟩
      | cons q' p => simp only [adv] at ih ⊢; simp only [TAddr] at ih ⊢; exact ⟨b1, off, len, cap, e1, e2, l', v', e3, e4, ih⟩

theorem adv_ne : ∀ (p : List (Nat × Nat)) (k : Nat), p ≠ [] → adv p k ≠ []
  | [], _, h => absurd rfl h
  | [(_, _)], _, _ => by simp [adv]
  | _ :: _ :: _, _, _ => by simp [adv]
theorem adv_length : ∀ (p : List (Nat × Nat)) (k : Nat), (adv p k).length = p.length
  | [], _ => rfl
  | [(_, _)], _ => rfl
  | _ :: y :: p, k => by simp [adv, adv_length (y :: p) k]

/-- The leaves of a record deep in a tree, as registers. -/
theorem nestA_ok {γ : Nat → Nat → Option Hv} {G : Gh} {w : World} {r j : Nat} {h : Hv} (hh : γ r j = some h) {p : List (Nat × Nat)} (hp : p ≠ []) {l : L} (hc : h.c = .own l)
    {b o : Nat} (ht : TAddr w l (G.val r j) p b o) {rec : Rec} {j0 : Nat} (hg : getR l p = some (rec, j0)) :
    ∀ (ls : Rec) (k : Nat) (vs : List Value) (S : List Nat), RdRec w ls vs S → (∀ i l', ls[i]? = some l' → rec[j0 + k + i]? = some l') → (∀ i v, vs[i]? = some v → w.cell? ⟨b, o + k + i, none⟩ = some v) →
      AOks γ G w (nestA r j h.ver h.iv p k ls) vs
  | [], k, vs, S, hr, _, _ => by simp only [RdRec] at hr; simp [nestA, AOks, hr.1]
  | l0 :: ls, k, vs, S, hr, hrec, hcell => by
    simp only [RdRec] at hr
    obtain ⟨v, vs', S1, S2, rfl, h1, h2, rfl⟩ := hr
    have ih := nestA_ok hh hp hc ht hg ls (k + 1) vs' S2 h2
      (fun i l' hi => by have := hrec (i + 1) l' (by simpa using hi); rw [← this]; congr 1; omega)
      (fun i v' hi => by have := hcell (i + 1) v' (by simpa using hi); rw [← this]; congr 2; omega)
    have c0 : w.cell? ⟨b, o + k, none⟩ = some v := by simpa using hcell 0 v (by simp)
    cases l0 with
    | v y => simp only [nestA, AOks]; refine ⟨v, vs', rfl, ?_, ih⟩; simp only [RdL] at h1; exact h1.1
    | g => simp only [nestA, AOks]; exact ⟨v, vs', rfl, trivial, ih⟩
    | s sz es =>
      simp only [nestA, AOks]
      refine ⟨v, vs', rfl, ⟨h, hh, Nat.le_refl _, Nat.le_refl _, adv_ne p k hp, fun _ l1 rec1 o1 sz1 es1 e1 e2 e3 => ?_⟩, ih⟩
      rw [hc] at e1; cases e1
      rw [getR_adv p l rec j0 k hg] at e2; cases e2
      have e4 := hrec 0 (.s sz es) (by simp)
      simp only [Nat.add_zero] at e4
      rw [e4] at e3; cases e3
      exact ⟨b, o + k, v, TAddr_adv p l _ b o k ht, c0, by omega, ViewOf.full h1⟩

/-- The leaves of a record that is only read. -/
theorem roA_ok {γ : Nat → Nat → Option Hv} {G : Gh} {w : World} : ∀ (ls : Rec) (vs : List Value) (S : List Nat), RdRec w ls vs S → (∀ b ∈ S, G.ow b = some .ro) → AOks γ G w (ls.map roA) vs
  | [], vs, S, h, _ => by simp only [RdRec] at h; simp [AOks, h.1]
  | l :: ls, vs, S, h, ho => by
    simp only [RdRec] at h
    obtain ⟨v, vs', S1, S2, rfl, h1, h2, rfl⟩ := h
    simp only [List.map_cons, AOks]
    refine ⟨v, vs', rfl, ?_, roA_ok ls vs' S2 h2 (fun b hb => ho b (by simp [hb]))⟩
    cases l with
    | v y => simp only [RdL] at h1; exact h1.1
    | g => trivial
    | s sz es => exact ⟨S1, h1, fun b hb => ho b (by simp [hb])⟩

theorem RdRec.sub {w : World} {ls : List L} {vs : List Value} {S : List Nat} (h : RdRec w ls vs S) (o m : Nat) : ∃ S1, RdRec w ((ls.drop o).take m) ((vs.drop o).take m) S1 ∧ ∀ b ∈ S1, b ∈ S := by
  have hl := h.length
  have e1 : ls = ls.take o ++ ls.drop o := (List.take_append_drop o ls).symm
  rw [e1] at h
  obtain ⟨S1, S2, rfl, h1, h2⟩ := h.split
  have e2 : ls.drop o = (ls.drop o).take m ++ (ls.drop o).drop m := (List.take_append_drop m _).symm
  rw [e2] at h2
  obtain ⟨S3, S4, rfl, h3, h4⟩ := h2.split
  refine ⟨S3, ?_, fun b hb => by simp [hb]⟩
  have e3 : ((vs.drop (ls.take o).length).take ((ls.drop o).take m).length) = (vs.drop o).take m := by
    apply List.ext_getElem?
    intro k
    simp only [List.getElem?_take, List.getElem?_drop, List.length_take, List.length_drop]
    by_cases c : o ≤ ls.length
    · rw [Nat.min_eq_left c]
      by_cases c2 : k < m
      · by_cases c3 : k < ls.length - o
        · rw [if_pos (by omega), if_pos c2]
        · rw [if_neg (by omega), if_pos c2, List.getElem?_eq_none (by omega)]
      · rw [if_neg (by omega), if_neg c2]
    · rw [if_neg (by omega)]
      split
      · rw [List.getElem?_eq_none (by omega)]
      · rfl
  rw [e3] at h3; exact h3

theorem vLoad_sound {P : Program} {o : Oper} {t : TypeId} {x : Operand} (ho : o.op = .load t x) (n : Nat) : ∀ (cx : Cx), cx.n = n → ∀ (G : Gh) (g : Gm) (a : Act) (w : World) (ls : List Loc) (ws : List W), SimG cx G g a w → (vLoad P n o.dst t x).Runs g ls (.ws ws) →
    ∀ (K : Act → World → Prop) (Q : Exit → Act → World → Prop), (∀ a' w', Sim cx (apps g ws) a' w' → K a' w') → o.wp P a w K Q := by
  rintro cx rfl G g a w ls ws hS h K Q hk
  unfold vLoad at h
  cases hti : tyI P t with
  | none => simp [hti, Rd.Runs] at h
  | some ti =>
    simp only [hti] at h
    obtain ⟨x0, ls', hx, h⟩ := ev1_sound hS h
    cases x0 with
    | pt r j =>
      obtain ⟨as, ls2, h1, h2, h3⟩ := loadLeaves_sound hS r _ _ _ _ _ h
      obtain ⟨b, off, e1, e2⟩ := hx
      refine mkR_sound hS h3 h1 (fun hlen => run_load_op ho e2 ?_) hk
      refine run_loadVar' hti w b (off + j) _ (by simp) hlen ?_
      intro k v hv
      rw [List.getElem?_map] at hv
      cases hr : (List.range ti.zero.length)[k]? with
      | none => simp [hr] at hv
      | some k' =>
        simp only [hr, Option.map_some, Option.some.injEq] at hv
        have hk' : k' = k ∧ k < ti.zero.length := by
          obtain ⟨q1, q2⟩ := List.getElem?_eq_some_iff.1 hr
          simp at q1 q2; exact ⟨q2.symm, q1⟩
        obtain ⟨rfl, hlt⟩ := hk'
        obtain ⟨m, hm⟩ := hS.noloc r _ e1
        obtain ⟨b', off', cur, ty, f1, f2, f3, f4, f5⟩ := hS.boxes r m hm
        rw [e1] at f1; cases f1
        obtain ⟨hh, hgl⟩ := h2 k' hlt
        obtain ⟨_, m', bx, _, q2, q3, _⟩ := hS.leaf r (j + k') _ (gl_some.1 hgl)
        rw [hm] at q2; cases q2
        rw [cell_in_row f3, ← hv]
        rw [show off + j + k' = off + (j + k') from by omega]
        exact f5 _ q3
    | pn r j ver iv p =>
      obtain ⟨h0, ls2, e1, _, h⟩ := rdH_sound h
      split at h
      · rename_i hgood
        cases hc : h0.c with
        | own l =>
          simp only [hc] at h
          cases hg : getR l p with
          | none => simp [hg, Rd.Runs] at h
          | some pr =>
            obtain ⟨rec, j0⟩ := pr
            simp only [hg, Rd.Runs] at h
            obtain ⟨hlen, h⟩ := h
            obtain ⟨h1, f1, f2, f3, f4, f5⟩ := hx
            rw [e1] at f1; cases f1
            obtain ⟨b, off, g1, g2⟩ := f5 hgood l hc
            have hok := hS.hok e1
            simp only [HOk, hc] at hok
            obtain ⟨cur, ty, fz, base, Sa, S1, Sb, m1, m2, m3, m4, m5, m6, _⟩ := focus p l _ _ b off rec j0 hok.1 hok.2.1 g1 hg
            obtain ⟨S2, k1, k2⟩ := m6.sub j0 ti.zero.length
            have hver : h0.ver = ver := (good_iff.1 hgood).1
            have hcells : ∀ i v, ((((cur.toList.drop base).take rec.length).drop j0).take ti.zero.length)[i]? = some v → w.cell? ⟨b, off + 0 + i, none⟩ = some v := by
              intro i v hv
              rw [List.getElem?_take] at hv
              split at hv
              · rw [List.getElem?_drop] at hv
                have := row_cells m1 hv
                rw [m4, ← this]; congr 2; omega
              · cases hv
            have hAs := nestA_ok e1 f4 hc g1 hg _ 0 _ S2 k1 (by
              intro i l' hi
              rw [List.getElem?_take] at hi
              split at hi
              · rw [List.getElem?_drop] at hi; simpa using hi
              · cases hi) hcells
            rw [hver] at hAs
            refine mkR_sound hS h hAs (fun hlen1 => run_load_op ho g2 ?_) hk
            refine run_loadVar' hti w b off _ ?_ hlen1 (fun k v hv => by simpa using hcells k v hv)
            rw [k1.length]; simp only [List.length_take, List.length_drop]; omega
        | ro l => simp [hc, Rd.Runs] at h
        | gone => simp [hc, Rd.Runs] at h
      · simp [Rd.Runs] at h
    | rp rec j =>
      simp only [Rd.Runs] at h
      obtain ⟨hlen, h⟩ := h
      obtain ⟨b, off, cur, ty, fz, S, e1, e2, e3, e4, e5, e6⟩ := hx
      obtain ⟨S2, k1, k2⟩ := e5.sub j ti.zero.length
      refine mkR_sound hS h (roA_ok _ _ S2 k1 (fun c hc => e6 c (k2 c hc))) (fun hlen1 => run_load_op ho e1 ?_) hk
      refine run_loadVar' hti w b (off + j) _ ?_ hlen1 ?_
      · rw [k1.length]; simp only [List.length_take, List.length_drop]; omega
      · intro k v hv
        rw [List.getElem?_take] at hv
        split at hv
        · rw [List.getElem?_drop] at hv
          have := row_cells e2 hv
          rw [← this]; congr 2; omega
        · cases hv
    | _ => simp [Rd.Runs] at h

end Go.V
