/-
  The value-level condition generator, part 14: calls; the other operations.
-/
import Derived.Test.YtlpkkliogonmnaaV13
set_option linter.all false

namespace Go.V

theorem RdRec.items {w : World} : ∀ {ls : Rec} {vs : List Value} {S : List Nat}, RdRec w ls vs S → ∃ Ss : List (List Nat), Ss.flatten = S ∧ Ss.length = ls.length ∧ ∀ j l, ls[j]? = some l → ∃ v, vs[j]? = some v ∧ RdL w l v (Ss.getD j [])
  | [], vs, S, h => by simp only [RdRec] at h; exact ⟨[], by simp [h.2], rfl, fun j l e => by simp at e⟩
  | l :: ls, vs, S, h => by
    simp only [RdRec] at h
    obtain ⟨v, vs', S1, S2, rfl, h1, h2, rfl⟩ := h
    obtain ⟨Ss, k1, k2, k3⟩ := RdRec.items h2
    refine ⟨S1 :: Ss, by simp [k1], by simp [k2], fun j l' e => ?_⟩
    cases j with
    | zero => simp at e; subst e; exact ⟨v, rfl, by simpa using h1⟩
    | succ j => simp at e; obtain ⟨v', q1, q2⟩ := k3 j l' e; exact ⟨v', by simpa using q1, by simpa using q2⟩

theorem flatten_disj : ∀ {Ss : List (List Nat)}, Ss.flatten.Nodup → ∀ i j, i ≠ j → ∀ b ∈ Ss.getD i [], b ∉ Ss.getD j []
  | [], _, i, j, _, b, hb => by simp at hb
  | S :: Ss, h, i, j, hij, b, hb => by
    rw [List.flatten_cons, List.nodup_append] at h
    have mem : ∀ k, b ∈ Ss.getD k [] → b ∈ Ss.flatten := by
      intro k hk
      rw [List.mem_flatten]
      by_cases hl : k < Ss.length
      · exact ⟨Ss[k], by simp, by simpa [List.getD, hl] using hk⟩
      · simp [List.getD, List.getElem?_eq_none (Nat.le_of_not_lt hl)] at hk
    intro hb2
    cases i with
    | zero =>
      cases j with
      | zero => exact hij rfl
      | succ j => exact h.2.2 b (by simpa using hb) b (mem j (by simpa using hb2)) rfl
    | succ i =>
      cases j with
      | zero => exact h.2.2 b (by simpa using hb2) b (mem i (by simpa using hb)) rfl
      | succ j => exact flatten_disj h.2.1 i j (by omega) b (by simpa using hb) (by simpa using hb2)

theorem flatten_getD {Ss : List (List Nat)} {k b : Nat} (hk : b ∈ Ss.getD k []) : b ∈ Ss.flatten := by
  rw [List.mem_flatten]
  by_cases hl : k < Ss.length
  · exact ⟨Ss[k], by simp, by simpa [List.getD, hl] using hk⟩
  · simp [List.getD, List.getElem?_eq_none (Nat.le_of_not_lt hl)] at hk

theorem nodup_getD : ∀ {Ss : List (List Nat)}, Ss.flatten.Nodup → ∀ k, (Ss.getD k []).Nodup
  | [], _, k => by simp
  | S :: Ss, h, k => by
    rw [List.flatten_cons, List.nodup_append] at h
    cases k with
    | zero => simpa using h.1
    | succ k => simpa using nodup_getD h.2.1 k

section
variable {P : Program} {o : Oper} {cx : Cx} {G : Gh} {g : Gm} {a : Act} {w : World}

theorem argL_sound (hS : SimG cx G g a w) {slot : Option Nat} {x : A} {v : Value} (hx : AOk (gl g) G w x v) {α : Type} {k : L → Rd α} {ls : List Loc} {out : α} (h : (argL slot x k).Runs g ls out) :
    ∃ l S ls', RdL w l v S ∧ (k l).Runs g ls' out := by
  have view : ∀ {sz lo m : Nat} {es : List Rec} {hv : Value} {S : List Nat}, RdL w (.s sz es) hv S → lo + m ≤ es.length → ViewOf hv sz lo m v → ∃ S1, RdL w (.s sz ((es.drop lo).take m)) v S1 := by
    intro sz lo m es hv S hr hlo hw
    obtain ⟨base, len, cap, base', cap', g1, g2, g3, g4, g5, g6⟩ := hw
    have hr0 := hr
    simp only [RdL] at hr
    obtain ⟨base0, len0, cap0, q1, q2, q3, q4, q5⟩ := hr
    rw [g1] at q1; cases q1
    have hlen : ((es.drop lo).take m).length = m := by simp only [List.length_take, List.length_drop]; omega
    rcases q5 with ⟨e1, e3⟩ | ⟨b, off, cur, ty, fz, S', f1, f2, f3, f4, f5⟩
    · refine ⟨[], ?_⟩
      simp only [RdL]
      exact ⟨base', m, cap', g2, hlen.symm, g3, by omega, .inl ⟨by omega, trivial⟩⟩
    · rcases g6 with ⟨r1, r3⟩ | ⟨b1, off1, off', r1, r2, r3, r4⟩
      · refine ⟨[], ?_⟩
        simp only [RdL]
        exact ⟨base', m, cap', g2, hlen.symm, g3, by omega, .inl ⟨r3, trivial⟩⟩
      rw [r1] at f1; cases f1
      obtain ⟨S1, k1, k2⟩ := f4.sub lo m
      by_cases hm : 0 < m
      · have ho := r4 hm
        refine ⟨b :: S1, ?_⟩
        simp only [RdL]
        refine ⟨base', m, cap', g2, hlen.symm, g3, by omega, .inr ⟨b, off', cur, ty, fz, S1, r2, f2, by omega, ?_, rfl⟩⟩
        have hl2 : m * sz + lo * sz ≤ len * sz := by rw [← Nat.add_mul]; exact Nat.mul_le_mul_right _ (by omega)
        have : (cur.toList.drop off').take (m * sz) = (((cur.toList.drop off).take (len * sz)).drop (lo * sz)).take (((es.drop lo).take m).length * sz) := by
          apply List.ext_getElem?
          intro k
          rw [hlen, ho]
          simp only [List.getElem?_take, List.getElem?_drop]
          by_cases ck : k < m * sz
          · simp only [ck, if_true]; rw [if_pos (by omega)]; congr 1; omega
          · simp [ck]
        rw [this]; exact k1
      · have hm0 : m = 0 := by omega
        subst hm0
        refine ⟨[b], ?_⟩
        simp only [RdL, List.take_zero]
        exact ⟨base', 0, cap', g2, rfl, g3, by omega, .inr ⟨b, off', cur, ty, fz, [], r2, f2, by omega, by simp [RdEs], rfl⟩⟩
  unfold argL at h
  split at h
  · rename_i y
    have hv : v = y := hx
    subst hv
    split at h
    · rename_i hs; exact ⟨_, [], ls, by simp [RdL, hs], h⟩
    · simp [Rd.Runs] at h
  · have hv : v = .slice none 0 0 := hx
    subst hv
    exact ⟨_, [], ls, by simp only [RdL]; exact ⟨none, 0, 0, rfl, rfl, Nat.le_refl _, Nat.zero_le _, .inl (by simp)⟩, h⟩
  · split at h
    · obtain ⟨S, h1, _⟩ := hx; exact ⟨_, S, ls, h1, h⟩
    · simp [Rd.Runs] at h
  · obtain ⟨hv, ls2, q1, q2, h⟩ := rdH_sound h
    split at h
    · rename_i sz' es hc
      split at h
      · rename_i hb
        simp only [Bool.and_eq_true, beq_iff_eq] at hb
        obtain ⟨h2, f1, f2, f3⟩ := hx
        rw [q1] at f1; cases f1
        obtain ⟨f4, f5⟩ := f3 hb.1 _ es hc
        have hok := hS.hok q1
        simp only [HOk, hc] at hok
        obtain ⟨S1, k1⟩ := view hok.1 f4 f5
        exact ⟨_, S1, ls2, k1, h⟩
      · simp [Rd.Runs] at h
    · simp [Rd.Runs] at h
  · obtain ⟨hv, ls2, q1, q2, h⟩ := rdH_sound h
    split at h
    · rename_i l hc
      split at h
      · rename_i hgood
        split at h
        · rename_i rec j0 hg
          split at h
          · rename_i sz' es hrec
            split at h
            · obtain ⟨h2, f1, f2, f2', fne, f3⟩ := hx
              rw [q1] at f1; cases f1
              obtain ⟨bb, oo, hvv, f4, f5, f6, f7⟩ := f3 hgood l rec j0 _ es hc hg hrec
              have hok := hS.hok q1
              simp only [HOk, hc] at hok
              obtain ⟨cur, ty, fz, base, Sa, S1, Sb, m1, m2, m3, m4, m5, m6, _⟩ := focus _ l _ _ bb oo rec j0 hok.1 hok.2.1 f4 hg
              obtain ⟨_, Sx, _, v', _, k2, k3⟩ := m6.at j0 _ hrec
              have hvv' : v' = hvv := by
                have := row_cells m1 k2
                rw [← m4, f5] at this; exact (Option.some.inj this).symm
              subst hvv'
              obtain ⟨S1, k1⟩ := view k3 f6 f7
              exact ⟨_, S1, ls2, k1, h⟩
            · simp [Rd.Runs] at h
          · simp [Rd.Runs] at h
        · simp [Rd.Runs] at h
      · simp [Rd.Runs] at h
    · simp [Rd.Runs] at h
  · simp [Rd.Runs] at h

theorem argLs_sound (hS : SimG cx G g a w) {α : Type} : ∀ (slots : List (Option Nat)) (as : List A) (vs : List Value), AOks (gl g) G w as vs → ∀ (k : List L → Rd α) (ls : List Loc) (out : α), (argLs slots as k).Runs g ls out →
    ∃ l S ls', RdRec w l vs S ∧ (k l).Runs g ls' out
  | [], [], vs, hx, k, ls, out, h => by simp only [AOks] at hx; subst hx; exact ⟨[], [], ls, by simp [RdRec], by simpa [argLs] using h⟩
  | [], _ :: _, vs, hx, k, ls, out, h => by simp [argLs, Rd.Runs] at h
  | _ :: _, [], vs, hx, k, ls, out, h => by simp [argLs, Rd.Runs] at h
  | sl :: sls, x :: as, vs, hx, k, ls, out, h => by
    obtain ⟨v, vs', rfl, h1, h2⟩ := hx
    simp only [argLs] at h
    obtain ⟨l, S, ls2, k1, h⟩ := argL_sound hS h1 h
    obtain ⟨l2, S2, ls3, k2, h⟩ := argLs_sound hS sls as vs' h2 _ _ _ h
    exact ⟨l :: l2, S ++ S2, ls3, by simp only [RdRec]; exact ⟨v, vs', S, S2, rfl, k1, k2, rfl⟩, h⟩

theorem argD_sound (hS : SimG cx G g a w) {t : TypeId} {x : Operand} {α : Type} {k : DV → Rd α} {ls : List Loc} {out : α} (h : (argD P t x k).Runs g ls out) :
    ∃ d S ls', RdDV w d (a.eval x) S ∧ (k d).Runs g ls' out := by
  unfold argD at h
  cases hti : tyI P t with
  | none => simp [hti, Rd.Runs] at h
  | some ti =>
    simp only [hti] at h
    obtain ⟨r, ls1, hr, h⟩ := ev_sound hS h
    cases r with
    | one x0 =>
      simp only [ROk] at hr
      simp only at h
      split at h
      · simp [Rd.Runs] at h
      · obtain ⟨l, S, ls2, k1, h⟩ := argLs_sound hS _ [x0] [a.eval x] (by simp [AOks, hr]) _ _ _ h
        split at h
        · rename_i l0
          simp only [RdRec] at k1
          obtain ⟨v, vs', S1, S2, e1, k2, ⟨e2, e3⟩, e4⟩ := k1
          cases e1
          exact ⟨.one l0, S1, ls2, k2, h⟩
        · simp [Rd.Runs] at h
    | agg as =>
      simp only [ROk] at hr
      obtain ⟨vs, e, hr⟩ := hr
      simp only at h
      split at h
      · obtain ⟨l, S, ls2, k1, h⟩ := argLs_sound hS _ as vs hr _ _ _ h
        exact ⟨.agg l, S, ls2, ⟨vs, e, k1⟩, h⟩
      · simp [Rd.Runs] at h
    | tup rs => simp [Rd.Runs] at h

theorem argDs_sound (hS : SimG cx G g a w) {α : Type} : ∀ (ts : List TypeId) (xs : List Operand) (k : List DV → Rd α) (ls : List Loc) (out : α), (argDs P ts xs k).Runs g ls out →
    ∃ ds ls', RdArgs (fun _ => True) w ds (xs.map a.eval) ∧ (k ds).Runs g ls' out
  | [], [], k, ls, out, h => ⟨[], ls, rfl, by simpa [argDs] using h⟩
  | [], _ :: _, k, ls, out, h => by simp [argDs, Rd.Runs] at h
  | _ :: _, [], k, ls, out, h => by simp [argDs, Rd.Runs] at h
  | t :: ts, x :: xs, k, ls, out, h => by
    simp only [argDs] at h
    obtain ⟨d, S, ls2, k1, h⟩ := argD_sound hS h
    obtain ⟨ds, ls3, k2, h⟩ := argDs_sound hS ts xs _ _ _ h
    exact ⟨d :: ds, ls3, ⟨_, _, S, rfl, k1, fun _ _ => trivial, k2⟩, h⟩

/-- All the leaves of a call's results, and what the register holds. -/
theorem RdDVs.leaves : ∀ {ds : List DV} {vs : List Value} {S : List Nat}, RdDVs w ds vs S → ∃ lv, RdRec w (ds.flatMap dvLeaves) lv S
  | [], vs, S, h => by simp only [RdDVs] at h; exact ⟨[], by simp [RdRec, h.2]⟩
  | d :: ds, vs, S, h => by
    simp only [RdDVs] at h
    obtain ⟨v, vs', S1, S2, rfl, h1, h2, rfl⟩ := h
    obtain ⟨lv, k⟩ := RdDVs.leaves h2
    simp only [List.flatMap_cons]
    cases d with
    | one l => exact ⟨v :: lv, by simp only [dvLeaves, List.singleton_append, RdRec]; exact ⟨v, lv, S1, S2, rfl, h1, k, rfl⟩⟩
    | agg ls => obtain ⟨us, e, h1⟩ := h1; exact ⟨us ++ lv, h1.append k⟩

end

section
variable {P : Program} {o : Oper} {cx : Cx} {G : Gh} {g : Gm} {a : Act} {w : World}

/-- What a register holds of a result's leaves. -/
theorem resLeaf_ok {γ : Nat → Nat → Option Hv} {d : Nat} : ∀ (ls : Rec) (j : Nat) (vs : List Value) (S : List Nat), RdRec w ls vs S → (∀ i l, ls[i]? = some l → ∃ og, γ d (j + i) = some ⟨0, 0, og, .own l⟩) →
    (∀ i v, vs[i]? = some v → G.val d (j + i) = v) → AOks γ G w (resLeaf d j ls) vs
  | [], j, vs, S, h, _, _ => by simp only [RdRec] at h; simp [resLeaf, AOks, h.1]
  | l :: ls, j, vs, S, h, hg, hv => by
    simp only [RdRec] at h
    obtain ⟨v, vs', S1, S2, rfl, h1, h2, rfl⟩ := h
    have ih := resLeaf_ok ls (j + 1) vs' S2 h2 (fun i l' e => by rw [show j + 1 + i = j + (i + 1) from by omega]; exact hg (i + 1) l' (by simpa using e)) (fun i v' e => by rw [show j + 1 + i = j + (i + 1) from by omega]; exact hv (i + 1) v' (by simpa using e))
    obtain ⟨og0, g0⟩ := hg 0 l (by simp)
    have v0 := hv 0 v (by simp)
    simp only [Nat.add_zero] at g0 v0
    cases l with
    | v y => simp only [resLeaf, AOks]; simp only [RdL] at h1; exact ⟨v, vs', rfl, h1.1, ih⟩
    | g => simp only [resLeaf, AOks]; exact ⟨v, vs', rfl, trivial, ih⟩
    | s sz es =>
      simp only [resLeaf, AOks]
      refine ⟨v, vs', rfl, ⟨_, g0, Nat.le_refl _, fun _ sz' es' e => ?_⟩, ih⟩
      cases e
      rw [v0]
      exact ⟨by omega, ViewOf.full h1⟩

theorem resR_ok {γ : Nat → Nat → Option Hv} {d : Nat} {dv : DV} {j : Nat} {v : Value} {S : List Nat} (h : RdDV w dv v S) (hg : ∀ i l, (dvLeaves dv)[i]? = some l → ∃ og, γ d (j + i) = some ⟨0, 0, og, .own l⟩)
    (hv : ∀ lv, RdRec w (dvLeaves dv) lv S → (∀ dl, dv = .one dl → lv = [v]) → (∀ dls, dv = .agg dls → v = .agg lv.toArray) → ∀ i u, lv[i]? = some u → G.val d (j + i) = u) : ROk γ G w (resR d j dv) v := by
  cases dv with
  | one l =>
    have h' : RdRec w [l] [v] S := by simp only [RdRec]; exact ⟨v, [], S, [], rfl, h, ⟨rfl, rfl⟩, by simp⟩
    have := resLeaf_ok (G := G) (γ := γ) (d := d) [l] j [v] S h' (by simpa [dvLeaves] using hg) (hv [v] (by simpa [dvLeaves] using h') (fun _ _ => rfl) (fun _ e => by cases e))
    unfold resR
    cases l <;> simp only [resLeaf, AOks] at this ⊢ <;> simp only [ROk] <;> (obtain ⟨v', vs', e, h1, _⟩ := this; cases e; exact h1)
  | agg ls =>
    obtain ⟨us, e, h'⟩ := h
    have := resLeaf_ok (G := G) (γ := γ) (d := d) ls j us S h' (by simpa [dvLeaves] using hg) (hv us (by simpa [dvLeaves] using h') (fun _ e => by cases e) (fun _ e' => by cases e'; exact e))
    simp only [resR, ROk]
    exact ⟨us, e, this⟩

/-- The values of the leaves of several results, in their order. -/
def LvOk (w : World) : List DV → List Value → List Value → List Nat → Prop
  | [], vs, lv, S => vs = [] ∧ lv = [] ∧ S = []
  | d :: ds, vs, lv, S => ∃ v vs' l1 l2 S1 S2, vs = v :: vs' ∧ lv = l1 ++ l2 ∧ S = S1 ++ S2 ∧ RdDV w d v S1 ∧ RdRec w (dvLeaves d) l1 S1 ∧ (∀ dl, d = .one dl → l1 = [v]) ∧ (∀ dls, d = .agg dls → v = .agg l1.toArray) ∧ LvOk w ds vs' l2 S2

theorem RdDVs.lv : ∀ {ds : List DV} {vs : List Value} {S : List Nat}, RdDVs w ds vs S → ∃ lv, LvOk w ds vs lv S
  | [], vs, S, h => by simp only [RdDVs] at h; exact ⟨[], h.1, rfl, h.2⟩
  | d :: ds, vs, S, h => by
    simp only [RdDVs] at h
    obtain ⟨v, vs', S1, S2, rfl, h1, h2, rfl⟩ := h
    obtain ⟨lv, k⟩ := RdDVs.lv h2
    cases d with
    | one l => exact ⟨[v] ++ lv, v, vs', [v], lv, S1, S2, rfl, rfl, rfl, h1, by simp only [dvLeaves, RdRec]; exact ⟨v, [], S1, [], rfl, h1, ⟨rfl, rfl⟩, by simp⟩, fun _ _ => rfl, (fun _ e => by cases e), k⟩
    | agg ls =>
      obtain ⟨us, e, h1'⟩ := h1
      exact ⟨us ++ lv, v, vs', us, lv, S1, S2, rfl, rfl, rfl, ⟨us, e, h1'⟩, h1', (fun _ e => by cases e), (fun _ e' => by cases e'; exact e), k⟩

theorem LvOk.rec_ : ∀ {ds : List DV} {vs lv : List Value} {S : List Nat}, LvOk w ds vs lv S → RdRec w (ds.flatMap dvLeaves) lv S
  | [], vs, lv, S, h => by obtain ⟨rfl, rfl, rfl⟩ := h; simp [RdRec]
  | d :: ds, vs, lv, S, h => by
    obtain ⟨v, vs', l1, l2, S1, S2, rfl, rfl, rfl, h1, h2, _, _, h3⟩ := h
    simp only [List.flatMap_cons]
    exact h2.append h3.rec_

theorem resRs_ok {γ : Nat → Nat → Option Hv} {d : Nat} : ∀ (ds : List DV) (j : Nat) (vs lv : List Value) (S : List Nat), LvOk w ds vs lv S → (∀ i l, (ds.flatMap dvLeaves)[i]? = some l → ∃ og, γ d (j + i) = some ⟨0, 0, og, .own l⟩) →
    (∀ i v, lv[i]? = some v → G.val d (j + i) = v) → ROks γ G w (resRs d j ds) vs
  | [], j, vs, lv, S, h, _, _ => by obtain ⟨rfl, _, _⟩ := h; simp [resRs, ROks]
  | dv :: ds, j, vs, lv, S, h, hg, hv => by
    obtain ⟨v, vs', l1, l2, S1, S2, rfl, rfl, rfl, h1, h2, h3, h4, h5⟩ := h
    have hlen := h2.length
    simp only [resRs, ROks]
    refine ⟨v, vs', rfl, ?_, ?_⟩
    · refine resR_ok h1 (fun i l e => hg i l ?_) (fun lv' q1 q2 q3 i u e => hv i u ?_)
      · simp only [List.flatMap_cons]
        rw [List.getElem?_append_left (List.getElem?_eq_some_iff.1 e).1]; exact e
      · have : lv' = l1 := by
          cases dv with
          | one l => rw [q2 l rfl, h3 l rfl]
          | agg ls => have e1 := q3 ls rfl; rw [h4 ls rfl] at e1; simpa using e1.symm
        subst this
        rw [List.getElem?_append_left (List.getElem?_eq_some_iff.1 e).1]; exact e
    · refine resRs_ok ds _ vs' l2 S2 h5 (fun i l e => ?_) (fun i u e => ?_)
      · have := hg ((dvLeaves dv).length + i) l (by simp only [List.flatMap_cons]; rw [List.getElem?_append_right (by omega)]; simpa using e)
        rw [show j + (dvLeaves dv).length + i = j + ((dvLeaves dv).length + i) from by omega]; exact this
      · have := hv (l1.length + i) u (by rw [List.getElem?_append_right (by omega)]; simpa using e)
        rw [hlen] at this
        rw [← this]; congr 1; omega

variable {ls : List Loc} {K : Act → World → Prop} {Q : Exit → Act → World → Prop}

theorem callFunc_run {f : FuncId} (h : hasBody P f = true) (args : Array Value) : (callFunc f args).run P w = .ok (.enter f args) w := by
  unfold hasBody at h
  cases hf : P.funcs[f]? with
  | none => simp [hf] at h
  | some fn =>
    simp only [hf, Bool.and_eq_true, bne_iff_ne, ne_eq] at h
    cases hb : fn.body with
    | none => simp [hb] at h
    | some c => simp [callFunc, hf, hb, h.2]

/-- A CALL by its contract. -/
theorem vCall_sound {f : FuncId} {ts : Array TypeId} {args : Array Operand} (ho : o.op = .call { callee := .value (.func f), args := args, argTypes := ts }) (hS : SimG cx G g a w)
    {ds : List DV} {mk : List DV → List W} (h : (vCall P cx.n o.dst f ts args).Runs g ls (.call f ds mk)) {res : List DV} (hc : Ctr P f ds res)
    (hk : ∀ a' w', Sim cx (apps g (mk res)) a' w' → K a' w') : o.wp P a w K Q := by
  unfold vCall at h
  split at h
  · rename_i hbody
    obtain ⟨ds', ls1, hargs, h⟩ := argDs_sound hS _ _ _ _ _ h
    obtain ⟨d, ls2, hd, hlt, hm, h⟩ := fresh_sound h
    simp only [Rd.Runs, Out.call.injEq] at h
    obtain ⟨_, _, rfl, rfl⟩ := h
    have hex : (execOp a.eval o).run P w = .ok (.enter f (args.map a.eval)) w := by
      unfold execOp
      simp only [ho, resolve, Act.eval, Deferred.ofValue, Sem.run_bind, Sem.run_pure, Result.andThen_ok, invoke, Array.empty_append, Array.append_empty]
      exact callFunc_run hbody _
    unfold Oper.wp
    rw [hex]
    simp only [Oper.upon]
    have hcall := hc w (args.toList.map a.eval) hargs
    have harr : (args.toList.map a.eval).toArray = args.map a.eval := by rw [← Array.toList_map, Array.toArray_toList]
    rw [harr] at hcall
    refine hcall.mono ?_
    rintro e w' ⟨v, S, rfl, hres, hnd, hfr, hsame⟩
    rw [hd]
    refine hk _ _ ?_
    -- the leaves
    obtain ⟨vs, lv, hlv, hv⟩ : ∃ vs lv, LvOk w' res vs lv S ∧ ((∃ dv, res = [dv] ∧ vs = [v]) ∨ v = .tuple vs.toArray ∧ ∀ dv, res ≠ [dv]) := by
      cases res with
      | nil => obtain ⟨vs, e, h2⟩ := hres; obtain ⟨lv, k⟩ := RdDVs.lv h2; exact ⟨vs, lv, k, .inr ⟨e, fun dv e => by cases e⟩⟩
      | cons d1 rest =>
        cases rest with
        | nil =>
          have h2 : RdDVs w' [d1] [v] S := by simp only [RdDVs]; exact ⟨v, [], S, [], rfl, hres, ⟨rfl, rfl⟩, by simp⟩
          obtain ⟨lv, k⟩ := RdDVs.lv h2
          exact ⟨[v], lv, k, .inl ⟨d1, rfl, rfl⟩⟩
        | cons d2 rest => obtain ⟨vs, e, h2⟩ := hres; obtain ⟨lv, k⟩ := RdDVs.lv h2; exact ⟨vs, lv, k, .inr ⟨e, fun dv e => by cases e⟩⟩
    have hrec := hlv.rec_
    obtain ⟨Ss, s1, s2, s3⟩ := hrec.items
    rw [← s1] at hnd
    obtain ⟨G', k1, k2, _, _⟩ := hS.newRoot hm false ((res.flatMap dvLeaves).map fun l => ⟨0, 0, none, .own l⟩) w' hsame (fun j => lv.getD j undef) (fun j => Ss.getD j [])
      (by
        intro j h hj
        simp only [List.getElem?_map, Option.map_eq_some_iff] at hj
        obtain ⟨l, e1, rfl⟩ := hj
        obtain ⟨u, q1, q2⟩ := s3 j l e1
        simp only [New]
        refine ⟨by simpa [List.getD, q1] using q2, nodup_getD hnd j, fun b hb => ?_⟩
        have := hfr b (by rw [← s1]; exact flatten_getD hb)
        exact ⟨this.2, .inl this.1⟩)
      (by
        intro j h hj
        simp only [List.getElem?_map, Option.map_eq_some_iff] at hj
        obtain ⟨l, e1, rfl⟩ := hj
        exact OrgOk.none)
      (fun i j _ _ hij => flatten_disj hnd i j hij) 0 0 (by simp)
    simp only [resWs, apps]
    refine ⟨G', k1.put hlt ?_⟩
    have hgl : ∀ i l, (res.flatMap dvLeaves)[i]? = some l → gl ((W.root d false ((res.flatMap dvLeaves).map fun l => ⟨0, 0, none, .own l⟩)).app g) d (0 + i) = some ⟨0, 0, none, .own l⟩ := by
      intro i l e
      simp [gl, W.app, e]
    have hval : ∀ i u, lv[i]? = some u → G'.val d (0 + i) = u := by
      intro i u e
      rw [k2, Nat.zero_add]
      simp [List.getD, e]
    have hall := resRs_ok (G := G') res 0 vs lv S hlv (fun i l e => ⟨none, hgl i l e⟩) hval
    rcases hv with ⟨dv, rfl, rfl⟩ | ⟨rfl, hne⟩
    · simp only [resAll]
      simp only [resRs, ROks] at hall
      obtain ⟨v', vs', e, h1, _⟩ := hall
      cases e; exact h1
    · have : resAll d res = .tup (resRs d 0 res) := by
        unfold resAll
        split
        · exact absurd rfl (hne _)
        · rfl
      rw [this]
      simp only [ROk]
      exact ⟨vs, rfl, hall⟩
  · simp [Rd.Runs] at h

end

end Go.V
