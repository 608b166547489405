/-
  The value-level condition generator, part 4: what stays true of the registers when the world and the leaves change.
-/
import Derived.Test.YtlpkkliogonmnaaV3
set_option linter.all false

namespace Go.V

theorem row_cell {l : List Value} {off m sz i j : Nat} {v : Value} (h : ((((l.drop off).take m).drop (i * sz)).take sz)[j]? = some v) : l[off + i * sz + j]? = some v := by
  rw [List.getElem?_take] at h
  by_cases c : j < sz
  · rw [if_pos c, List.getElem?_drop, List.getElem?_take] at h
    by_cases c2 : i * sz + j < m
    · rw [if_pos c2, List.getElem?_drop] at h
      rw [← h]; congr 1; omega
    · rw [if_neg c2] at h; cases h
  · rw [if_neg c] at h; cases h

theorem cell_in_row {w : World} {b : Nat} {cur : Array Value} {ty : TypeId} {fz : Nat × Nat} (h : w.heap[b]? = some (.cells cur ty fz)) (o : Nat) : w.cell? ⟨b, o, none⟩ = cur[o]? := by simp [World.cell?, h]

theorem TAddr.keep {w w' : World} : ∀ (p : List (Nat × Nat)) (l : L) (hv : Value) (S : List Nat) (b o : Nat), RdL w l hv S → TAddr w l hv p b o → (∀ c ∈ S, w'.heap[c]? = w.heap[c]?) → TAddr w' l hv p b o
  | [], l, hv, S, b, o, _, h, _ => by cases l <;> simp [TAddr] at h
  | (i, j) :: p, l, hv, S, b, o, hr, h, hk => by
    cases l with
    | v x => simp [TAddr] at h
    | g => simp [TAddr] at h
    | s sz es =>
      cases p with
      | nil => simpa [TAddr] using h
      | cons q p =>
        simp only [TAddr] at h ⊢
        obtain ⟨b1, off, len, cap, e1, hi, l', v', e2, e3, h4⟩ := h
        refine ⟨b1, off, len, cap, e1, hi, l', v', e2, ?_, ?_⟩
        · simp only [RdL] at hr
          obtain ⟨base, len', cap', f1, f2, f3, f4, f5⟩ := hr
          rw [e1] at f1
          cases f1
          rcases f5 with f5 | ⟨b', off', cur, ty, fz, S', g1, g2, g3, g4, g5⟩
          · exfalso; have := f5.1; omega
          · cases g1
            rw [World.cell?_of_block (w := w) (hk b1 (by simp [g5]))]
            exact e3
        · simp only [RdL] at hr
          obtain ⟨base, len', cap', f1, f2, f3, f4, f5⟩ := hr
          rw [e1] at f1
          cases f1
          rcases f5 with f5 | ⟨b', off', cur, ty, fz, S', g1, g2, g3, g4, g5⟩
          · exfalso; have := f5.1; omega
          · cases g1
            cases hes : es[i]? with
            | none => simp [hes] at e2
            | some rec =>
              simp only [hes, Option.bind_some] at e2
              obtain ⟨Sa, S1, Sb, k1, k2, k3⟩ := g4.at i rec hes
              obtain ⟨Ta, T1, Tb, v'', k4, k5, k6⟩ := k3.at j l' e2
              have hv'' : v'' = v' := by
                have := row_cell k5
                rw [cell_in_row g2, ← Array.getElem?_toList, this] at e3
                exact Option.some.inj e3
              subst hv''
              exact TAddr.keep (q :: p) l' v'' T1 b o k6 h4 (fun c hc => hk c (by rw [g5, k1, k4]; simp [hc]))

structure Step (g : Gm) (G : Gh) (w : World) (g' : Gm) (G' : Gh) (w' : World) : Prop where
  leaf : ∀ r j h, gl g r j = some h → ∃ h', gl g' r j = some h' ∧
    ((h' = h ∧ G'.val r j = G.val r j ∧ ∀ l, h.c = .own l → ∀ b ∈ G.fp r j, w'.heap[b]? = w.heap[b]?) ∨
     (h'.ver = h.ver ∧ h.iv < h'.iv ∧ G'.val r j = G.val r j ∧ ∃ sz es es', h.c = .own (.s sz es) ∧ h'.c = .own (.s sz es') ∧ es'.length = es.length) ∨
     (h.ver < h'.ver ∧ h.iv ≤ h'.iv))
  ro : ∀ b, G.ow b = some .ro → G'.ow b = some .ro ∧ w'.heap[b]? = w.heap[b]?
  loc : ∀ r x, G.loc r = some x → G'.loc r = some x

theorem good_iff {h : Hv} {ver iv : Nat} {p : List (Nat × Nat)} : good h ver iv p = true ↔ h.ver = ver ∧ (p.length = 1 ∨ h.iv = iv) := by simp [good]
theorem goodN_iff {h : Hv} {ver iv : Nat} : goodN h ver iv = true ↔ h.ver = ver ∧ h.iv = iv := by simp [goodN]

theorem AOk.step {cx : Cx} {g : Gm} {G : Gh} {a : Act} {w : World} (hS : SimG cx G g a w) {g' : Gm} {G' : Gh} {w' : World} (hs : Step g G w g' G' w') :
    ∀ (y : A) (v : Value), AOk (gl g) G w y v → AOk (gl g') G' w' y v := by
  have hok : ∀ r j h, gl g r j = some h → HOk G w r j h := by
    intro r j h hh
    unfold gl at hh
    split at hh
    · rename_i h' he
      cases hh
      obtain ⟨h2, k, box, e1, e2, e3, e4⟩ := hS.leaf r j _ he
      cases e1; exact e4
    · cases hh
  intro y v h
  cases y with
  | v y => exact h
  | nl => exact h
  | ro sz es =>
    obtain ⟨S, h1, h2⟩ := h
    exact ⟨S, RdL.keep _ _ _ h1 (fun b hb => (hs.ro b (h2 b hb)).2), fun b hb => (hs.ro b (h2 b hb)).1⟩
  | rp rec j =>
    obtain ⟨b, off, cur, ty, fz, S, e1, e2, e3, e4, e5, e6⟩ := h
    exact ⟨b, off, cur, ty, fz, S, e1, by rw [(hs.ro b e3).2, e2], (hs.ro b e3).1, e4, RdRec.keep _ _ _ e5 (fun c hc => (hs.ro c (e6 c hc)).2), fun c hc => (hs.ro c (e6 c hc)).1⟩
  | pt r j =>
    obtain ⟨b, off, e1, e2⟩ := h
    exact ⟨b, off, hs.loc _ _ e1, e2⟩
  | un => trivial
  | pn r j ver iv p =>
    obtain ⟨h0, e1, e2, e3, e4, e5⟩ := h
    obtain ⟨h', f1, f2⟩ := hs.leaf r j h0 e1
    refine ⟨h', f1, ?_, ?_, e4, ?_⟩
    · rcases f2 with ⟨rfl, _⟩ | ⟨k, _⟩ | ⟨k, _⟩ <;> omega
    · rcases f2 with ⟨rfl, _⟩ | ⟨_, k, _⟩ | ⟨_, k⟩ <;> omega
    · intro hg l hl
      rw [good_iff] at hg
      rcases f2 with ⟨rfl, k1, k2⟩ | ⟨k1, k2, k3, sz, es, es', k4, k5, k6⟩ | ⟨k1, k2⟩
      · obtain ⟨b, o, m1, m2⟩ := e5 (good_iff.2 hg) l hl
        have := hok r j _ e1
        simp only [HOk, hl] at this
        rw [k1]
        exact ⟨b, o, TAddr.keep p l _ _ b o this.1 m1 (k2 l hl), m2⟩
      · have hp : p.length = 1 := by have := hg.2; omega
        obtain ⟨b, o, m1, m2⟩ := e5 (good_iff.2 ⟨by omega, .inl hp⟩) _ k4
        refine ⟨b, o, ?_, m2⟩
        rw [k5] at hl; cases hl
        rw [k3]
        match p, hp with
        | [(i, j')], _ =>
          simp only [TAddr] at m1 ⊢
          rw [k6]; exact m1
      · omega
  | vw r j ver lo n =>
    obtain ⟨h0, e1, e2, e3⟩ := h
    obtain ⟨h', f1, f2⟩ := hs.leaf r j h0 e1
    refine ⟨h', f1, ?_, ?_⟩
    · rcases f2 with ⟨rfl, _⟩ | ⟨k, _⟩ | ⟨k, _⟩ <;> omega
    · intro hv sz es hc
      rcases f2 with ⟨rfl, k1, k2⟩ | ⟨k1, k2, k3, sz', es0, es', k4, k5, k6⟩ | ⟨k1, k2⟩
      · rw [k1]; exact e3 hv sz es hc
      · rw [k5] at hc; cases hc
        obtain ⟨m1, m2⟩ := e3 (by omega) _ _ k4
        rw [k3, k6]; exact ⟨m1, m2⟩
      · omega
  | vn r j ver iv p lo n =>
    obtain ⟨h0, e1, e2, e3, e4, e5⟩ := h
    obtain ⟨h', f1, f2⟩ := hs.leaf r j h0 e1
    refine ⟨h', f1, ?_, ?_, e4, ?_⟩
    · rcases f2 with ⟨rfl, _⟩ | ⟨k, _⟩ | ⟨k, _⟩ <;> omega
    · rcases f2 with ⟨rfl, _⟩ | ⟨_, k, _⟩ | ⟨_, k⟩ <;> omega
    · intro hg l rec o sz es hl hgr hrec
      rw [goodN_iff] at hg
      rcases f2 with ⟨rfl, k1, k2⟩ | ⟨k1, k2, k3, k4⟩ | ⟨k1, k2⟩
      · obtain ⟨b, oo, hv, m1, m2, m3, m4⟩ := e5 (goodN_iff.2 hg) l rec o sz es hl hgr hrec
        have := hok r j _ e1
        simp only [HOk, hl] at this
        refine ⟨b, oo, hv, by rw [k1]; exact TAddr.keep p l _ _ b oo this.1 m1 (k2 l hl), ?_, m3, m4⟩
        rw [World.cell?_of_block (w := w)]
        · exact m2
        · refine k2 l hl b ?_
          have key : ∀ (p : List (Nat × Nat)) (l : L) (hv : Value) (S : List Nat), RdL w l hv S → TAddr w l hv p b oo → b ∈ S := by
            intro p
            induction p with
            | nil => intro l hv S _ h; cases l <;> simp [TAddr] at h
            | cons x p ih =>
              obtain ⟨i, j⟩ := x
              intro l hv S hr h
              cases l with
              | v x => simp [TAddr] at h
              | g => simp [TAddr] at h
              | s sz es =>
                simp only [RdL] at hr
                obtain ⟨base, len', cap', q1, q2, q3, q4, q5⟩ := hr
                cases p with
                | nil =>
                  simp only [TAddr] at h
                  obtain ⟨b1, off, len, cap, y1, y2, y4, y5⟩ := h
                  rw [y1] at q1; cases q1
                  rcases q5 with q5 | ⟨b', off', cur, ty, fz, S', g1, g2, g3, g4, g5⟩
                  · exfalso; have := q5.1; omega
                  · cases g1; rw [g5, y4]; simp
                | cons q p =>
                  simp only [TAddr] at h
                  obtain ⟨b1, off, len, cap, y1, y2, l', v', y4, y5, y6⟩ := h
                  rw [y1] at q1; cases q1
                  rcases q5 with q5 | ⟨b', off', cur, ty, fz, S', g1, g2, g3, g4, g5⟩
                  · exfalso; have := q5.1; omega
                  · cases g1
                    cases hes : es[i]? with
                    | none => simp [hes] at y4
                    | some rec =>
                      simp only [hes, Option.bind_some] at y4
                      obtain ⟨Sa, S1, Sb, z1, z2, z3⟩ := g4.at i rec hes
                      obtain ⟨Ta, T1, Tb, v'', z4, z5, z6⟩ := z3.at j l' y4
                      have hv'' : v'' = v' := by
                        have := row_cell z5
                        rw [cell_in_row g2, ← Array.getElem?_toList, this] at y5
                        exact Option.some.inj y5
                      subst hv''
                      have := ih l' v'' T1 z6 y6
                      rw [g5, z1, z4]; simp [this]
          exact key p l _ _ this.1 m1
      · omega
      · omega

theorem AOks.step {cx : Cx} {g : Gm} {G : Gh} {a : Act} {w : World} (hS : SimG cx G g a w) {g' : Gm} {G' : Gh} {w' : World} (hs : Step g G w g' G' w') :
    ∀ (xs : List A) (vs : List Value), AOks (gl g) G w xs vs → AOks (gl g') G' w' xs vs
  | [], vs, h => h
  | x :: xs, vs, h => by
    obtain ⟨v, vs', e, h1, h2⟩ := h
    exact ⟨v, vs', e, AOk.step hS hs x v h1, AOks.step hS hs xs vs' h2⟩

mutual
theorem ROk.step {cx : Cx} {g : Gm} {G : Gh} {a : Act} {w : World} (hS : SimG cx G g a w) {g' : Gm} {G' : Gh} {w' : World} (hs : Step g G w g' G' w') :
    ∀ (y : R) (v : Value), ROk (gl g) G w y v → ROk (gl g') G' w' y v
  | .one x, v, h => by simp only [ROk] at h ⊢; exact AOk.step hS hs x v h
  | .agg xs, v, h => by
    simp only [ROk] at h ⊢
    obtain ⟨vs, e, h⟩ := h
    exact ⟨vs, e, AOks.step hS hs xs vs h⟩
  | .tup xs, v, h => by
    simp only [ROk] at h ⊢
    obtain ⟨vs, e, h⟩ := h
    exact ⟨vs, e, ROks.step hS hs xs vs h⟩
theorem ROks.step {cx : Cx} {g : Gm} {G : Gh} {a : Act} {w : World} (hS : SimG cx G g a w) {g' : Gm} {G' : Gh} {w' : World} (hs : Step g G w g' G' w') :
    ∀ (xs : List R) (vs : List Value), ROks (gl g) G w xs vs → ROks (gl g') G' w' xs vs
  | [], vs, h => by simpa only [ROks] using h
  | x :: xs, vs, h => by
    simp only [ROks] at h ⊢
    obtain ⟨v, vs', e, h1, h2⟩ := h
    exact ⟨v, vs', e, ROk.step hS hs x v h1, ROks.step hS hs xs vs' h2⟩
end

theorem Step.same {g g' : Gm} {G : Gh} {w : World} (h : ∀ r j, g' (.leaf r j) = g (.leaf r j)) : Step g G w g' G w :=
  ⟨fun r j x hx => ⟨x, by unfold gl at *; rw [h]; exact hx, .inl ⟨rfl, rfl, fun _ _ _ _ => rfl⟩⟩, fun _ h => ⟨h, rfl⟩, fun _ _ h => h⟩

theorem getD_put {a : Act} {d e : Nat} {v : Value} (h : d < a.tmps.size) : (a.put (some d) v).tmps.getD e undef = if e = d then v else a.tmps.getD e undef := by
  unfold Act.put
  simp only [Array.getD_eq_getD_getElem?]
  rw [Array.getElem?_setIfInBounds]
  by_cases hd : d = e
  · subst hd; simp [h]
  · rw [if_neg hd, if_neg (Ne.symm hd)]

/-- A register takes a value. -/
theorem SimG.put {cx : Cx} {g : Gm} {G : Gh} {a : Act} {w : World} (hS : SimG cx G g a w) {d : Nat} {x : R} {v : Value} (hd : d < cx.n) (hx : ROk (gl g) G w x v) :
    SimG cx G ((W.reg d x).app g) (a.put (some d) v) w := by
  have hl : ∀ r j, (W.reg d x).app g (.leaf r j) = g (.leaf r j) := fun r j => by simp [W.app]
  have hm : ∀ r, (W.reg d x).app g (.meta_ r) = g (.meta_ r) := fun r => by simp [W.app]
  have hgl : gl ((W.reg d x).app g) = gl g := by funext r j; simp [gl, hl]
  refine ⟨hS.defers, by simp [Act.put, hS.tm], ?_, ?_, ?_, ?_, ?_, hS.lt, hS.frame, hS.frow, fun r j h e => hS.anc r j h (by rw [← hgl]; exact e), hS.aloc⟩
  · intro e y he
    rw [hgl, getD_put (by rw [hS.tm]; exact hd)]
    simp only [W.app] at he
    split at he
    · rename_i h; cases h; cases he
      rw [if_pos rfl]; exact ⟨hd, x, rfl, hx⟩
    · rename_i h
      rw [if_neg (fun h' => h (by rw [h']))]
      exact hS.reg e y he
  · intro r k hr; rw [hm] at hr; exact hS.boxes r k hr
  · intro r j y hy; rw [hl] at hy
    obtain ⟨h, k, box, e1, e2, e3, e4⟩ := hS.leaf r j y hy
    exact ⟨h, k, box, e1, by rw [hm]; exact e2, e3, e4⟩
  · intro r y hy; rw [hm] at hy; exact hS.metas r y hy
  · intro r b hb; obtain ⟨k, hk⟩ := hS.noloc r b hb; exact ⟨k, by rw [hm]; exact hk⟩

/-! ### Operands -/

theorem rdR_sound {cx : Cx} {g : Gm} {G : Gh} {a : Act} {w : World} (hS : SimG cx G g a w) {α : Type} {d : Nat} {k : R → Rd α} {ls : List Loc} {o : α}
    (h : (rdR d k).Runs g ls o) : ∃ r ls', ROk (gl g) G w r (a.tmps.getD d undef) ∧ g (.reg d) = some (.r r) ∧ (k r).Runs g ls' o := by
  unfold rdR rd at h
  simp only [Rd.Runs] at h
  obtain ⟨ls', e, h⟩ := h
  cases hg : g (.reg d) with
  | none => simp [hg, Rd.Runs] at h
  | some x =>
    simp only [hg] at h
    obtain ⟨_, r, rfl, hr⟩ := hS.reg d x hg
    exact ⟨r, ls', hr, rfl, h⟩

theorem rdH_sound {g : Gm} {α : Type} {r j : Nat} {k : Hv → Rd α} {ls : List Loc} {o : α}
    (h : (rdH r j k).Runs g ls o) : ∃ x ls', gl g r j = some x ∧ g (.leaf r j) = some (.h x) ∧ (k x).Runs g ls' o := by
  unfold rdH rd at h
  simp only [Rd.Runs] at h
  obtain ⟨ls', e, h⟩ := h
  cases hg : g (.leaf r j) with
  | none => simp [hg, Rd.Runs] at h
  | some x =>
    simp only [hg] at h
    cases x with
    | h x => exact ⟨x, ls', by simp [gl, hg], rfl, h⟩
    | r x => simp [Rd.Runs] at h
    | m k box => simp [Rd.Runs] at h

theorem constA_ok (γ : Nat → Nat → Option Hv) (G : Gh) (w : World) (c : Value) : AOk γ G w (constA c) c := by
  unfold constA; split <;> rfl

theorem ev_sound {cx : Cx} {g : Gm} {G : Gh} {a : Act} {w : World} (hS : SimG cx G g a w) {α : Type} {x : Operand} {k : R → Rd α} {ls : List Loc} {o : α}
    (h : (ev x k).Runs g ls o) : ∃ r ls', ROk (gl g) G w r (a.eval x) ∧ (k r).Runs g ls' o := by
  cases x with
  | tmp t => obtain ⟨r, ls', h1, _, h2⟩ := rdR_sound hS h; exact ⟨r, ls', h1, h2⟩
  | const c =>
    refine ⟨_, ls, ?_, h⟩
    show ROk (gl g) G w (constR c) c
    unfold constR
    split
    · rename_i cs
      simp only [ROk]
      refine ⟨cs.toList, by simp, ?_⟩
      have : ∀ l : List Value, AOks (gl g) G w (l.map constA) l := by
        intro l
        induction l with
        | nil => simp [AOks]
        | cons v l ih => exact ⟨v, l, rfl, constA_ok _ _ _ v, ih⟩
      exact this _
    · simp only [ROk]; exact constA_ok _ _ _ _
  | global g => simp [ev, Rd.Runs] at h
  | func f => simp [ev, Rd.Runs] at h

theorem ev1_sound {cx : Cx} {g : Gm} {G : Gh} {a : Act} {w : World} (hS : SimG cx G g a w) {α : Type} {x : Operand} {k : A → Rd α} {ls : List Loc} {o : α}
    (h : (ev1 x k).Runs g ls o) : ∃ r ls', AOk (gl g) G w r (a.eval x) ∧ (k r).Runs g ls' o := by
  obtain ⟨r, ls', h1, h2⟩ := ev_sound hS h
  cases r with
  | one b => simp only [ROk] at h1; exact ⟨b, ls', h1, h2⟩
  | agg as => simp [Rd.Runs] at h2
  | tup rs => simp [Rd.Runs] at h2

theorem evInt_sound {cx : Cx} {g : Gm} {G : Gh} {a : Act} {w : World} (hS : SimG cx G g a w) {α : Type} {x : Operand} {k : IntKind → Int → Rd α} {ls : List Loc} {o : α}
    (h : (evInt x k).Runs g ls o) : ∃ kd n ls', a.eval x = .int kd n ∧ (k kd n).Runs g ls' o := by
  obtain ⟨r, ls', h1, h2⟩ := ev1_sound hS h
  cases r with
  | v x => cases x with
    | int kd n => exact ⟨kd, n, ls', h1, h2⟩
    | _ => simp [Rd.Runs] at h2
  | _ => simp [Rd.Runs] at h2

theorem evBool_sound {cx : Cx} {g : Gm} {G : Gh} {a : Act} {w : World} (hS : SimG cx G g a w) {α : Type} {x : Operand} {k : Bool → Rd α} {ls : List Loc} {o : α}
    (h : (evBool x k).Runs g ls o) : ∃ b ls', a.eval x = .bool b ∧ (k b).Runs g ls' o := by
  obtain ⟨r, ls', h1, h2⟩ := ev1_sound hS h
  cases r with
  | v x => cases x with
    | bool b => exact ⟨b, ls', h1, h2⟩
    | _ => simp [Rd.Runs] at h2
  | _ => simp [Rd.Runs] at h2

/-- What is asked of an operation: whatever its condition lets it come to, the model comes to it too. -/
def Sound (P : Program) (o : Oper) (rd : Rd Out) : Prop :=
  ∀ (cx : Cx) (G : Gh) (g : Gm) (a : Act) (w : World) (ls : List Loc) (ws : List W), SimG cx G g a w → rd.Runs g ls (.ws ws) →
    ∀ (K : Act → World → Prop) (Q : Exit → Act → World → Prop), (∀ a' w', Sim cx (apps g ws) a' w' → K a' w') → o.wp P a w K Q

/-- An operation that only hands a value to a register. -/
theorem wp_value {P : Program} {o : Oper} {a : Act} {w w' : World} {K : Act → World → Prop} {Q : Exit → Act → World → Prop} {v : Value}
    (hr : (execOp a.eval o).run P w = .ok (.value v) w') (hk : K (a.put o.dst v) w') : o.wp P a w K Q := by
  unfold Oper.wp; rw [hr]; exact hk

theorem toReg_sound {P : Program} {o : Oper} {cx : Cx} {G : Gh} {g : Gm} {a : Act} {w : World} {ls : List Loc} {ws : List W} {x : R} {v : Value} (hS : SimG cx G g a w)
    (h : (toReg cx.n o.dst x).Runs g ls (.ws ws)) (hx : ROk (gl g) G w x v) (hr : (execOp a.eval o).run P w = .ok (.value v) w)
    {K : Act → World → Prop} {Q : Exit → Act → World → Prop} (hk : ∀ a' w', Sim cx (apps g ws) a' w' → K a' w') : o.wp P a w K Q := by
  refine wp_value hr (hk _ _ ?_)
  unfold toReg at h
  cases hd : o.dst with
  | none =>
    simp only [hd, Rd.Runs] at h
    obtain ⟨_, h⟩ := h; cases h
    exact ⟨G, by simpa [apps, Act.put] using hS⟩
  | some d =>
    simp only [hd] at h
    split at h
    · rename_i hlt
      simp only [Rd.Runs] at h
      obtain ⟨_, h⟩ := h; cases h
      exact ⟨G, by simpa [apps] using hS.put hlt hx⟩
    · simp [Rd.Runs] at h

end Go.V
