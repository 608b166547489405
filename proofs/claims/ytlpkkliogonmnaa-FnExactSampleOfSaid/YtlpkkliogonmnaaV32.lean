/-
  The value-level condition generator, part 32: a call that writes into rows of the caller's, in the state.
-/
import Derived.Test.YtlpkkliogonmnaaV18
set_option linter.all false

namespace Go.V

/-- What becomes of leaves: new contents in place, with their footprints. -/
abbrev Ups := Nat → Nat → Option (Hv × List Nat)

section
variable {cx : Cx} {g : Gm} {G : Gh} {a : Act} {w : World}

open Classical in
theorem SimG.call (hS : SimG cx G g a w) (u : Ups) {d : Nat} (hd : g (.meta_ d) = none) (hs : List Hv) (w' : World) (g' : Gm)
    (hgr : ∀ e, g' (.reg e) = g (.reg e)) (hgm : ∀ r, g' (.meta_ r) = if r = d then some (.m hs.length false) else g (.meta_ r))
    (hgl : ∀ r j, g' (.leaf r j) = if r = d then (hs[j]?).map .h else match u r j with
      | some x => some (.h x.1)
      | none => g (.leaf r j))
    (hos : w'.os = w.os) (htape : w'.tape = w.tape) (hout : w'.output = w.output) (hsize : w.heap.size ≤ w'.heap.size)
    (hsame : ∀ b, b < w.heap.size → (∀ r j x, u r j = some x → b ∉ G.fp r j) → w'.heap[b]? = w.heap[b]?)
    (hu : ∀ r j h' S', u r j = some (h', S') → ∃ h sz es es', g (.leaf r j) = some (.h h) ∧ h.c = .own (.s sz es) ∧ h' = ⟨h.ver, h.iv + 1, h.org, .own (.s sz es')⟩ ∧ es'.length = es.length ∧
      RdL w' (.s sz es') (G.val r j) S' ∧ S'.Nodup)
    (nv : Nat → Value) (nf : Nat → List Nat) (hnew : ∀ j h, hs[j]? = some h → ∃ l, h = ⟨0, 0, none, .own l⟩ ∧ RdL w' l (nv j) (nf j) ∧ (nf j).Nodup)
    (hfree : ∀ b, ((∃ j, j < hs.length ∧ b ∈ nf j) ∨ ∃ r j h' S', u r j = some (h', S') ∧ b ∈ S') → Unf w' b ∧ (w.heap.size ≤ b ∨ ∃ r j x, u r j = some x ∧ b ∈ G.fp r j))
    (hd1 : ∀ i j, i < hs.length → j < hs.length → i ≠ j → ∀ b ∈ nf i, b ∉ nf j)
    (hd2 : ∀ i r j h' S', i < hs.length → u r j = some (h', S') → ∀ b ∈ nf i, b ∉ S')
    (hd3 : ∀ r j h' S' r2 j2 h2 S2, u r j = some (h', S') → u r2 j2 = some (h2, S2) → (r, j) ≠ (r2, j2) → ∀ b ∈ S', b ∉ S2) :
    ∃ G', SimG cx G' g' a w' ∧ (∀ j, G'.val d j = nv j) := by
  have hlf : ∀ j, g (.leaf d j) = none := by
    intro j
    cases e : g (.leaf d j) with
    | none => rfl
    | some y => obtain ⟨h, k, bx, e1, e2, _⟩ := hS.leaf d j y e; rw [hd] at e2; cases e2
  have hud : ∀ j, u d j = none := by
    intro j
    cases e : u d j with
    | none => rfl
    | some x => obtain ⟨h, _, _, _, e1, _⟩ := hu d j x.1 x.2 e; rw [hlf] at e1; cases e1
  have hgd : ∀ j, gl g d j = none := fun j => by simp [gl, hlf]
  have hloc : G.loc d = none := by
    cases e : G.loc d with
    | none => rfl
    | some y => obtain ⟨k, hk⟩ := hS.noloc d y e; rw [hd] at hk; cases hk
  let isN : Nat → Prop := fun b => ∃ j, j < hs.length ∧ b ∈ nf j
  let isU : Nat → Prop := fun b => ∃ p : Nat × Nat, ∃ h' S', u p.1 p.2 = some (h', S') ∧ b ∈ S'
  let G' : Gh := {
    loc := G.loc
    val := fun r j => if r = d then nv j else G.val r j
    fp := fun r j => if r = d then nf j else match u r j with
      | some x => x.2
      | none => G.fp r j
    ow := fun b => if h : isN b then some (.leaf d h.choose) else if h : isU b then some (.leaf h.choose.1 h.choose.2) else G.ow b }
  have ufp : ∀ r j x, u r j = some x → ∀ b ∈ G.fp r j, G.ow b = some (.leaf r j) ∧ Unf w b := by
    intro r j x hx b hb
    obtain ⟨h, sz, es, es', e1, e2, _⟩ := hu r j x.1 x.2 hx
    have := hS.hok (gl_some.2 e1)
    simp only [HOk, e2] at this
    exact this.2.2 b hb
  have ownN : ∀ j, j < hs.length → ∀ b ∈ nf j, G'.ow b = some (.leaf d j) := by
    intro j hj b hb
    have h2 : isN b := ⟨j, hj, hb⟩
    simp only [G', dif_pos h2]
    have := h2.choose_spec
    by_cases e : h2.choose = j
    · rw [e]
    · exact absurd hb (hd1 _ j this.1 hj e b this.2)
  have ownU : ∀ r j h' S', u r j = some (h', S') → ∀ b ∈ S', G'.ow b = some (.leaf r j) := by
    intro r j h' S' hx b hb
    have h1 : ¬ isN b := fun ⟨i, hi, hbi⟩ => hd2 i r j h' S' hi hx b hbi hb
    have h2 : isU b := ⟨(r, j), h', S', hx, hb⟩
    simp only [G', dif_neg h1, dif_pos h2]
    obtain ⟨h3, S3, q1, q2⟩ := h2.choose_spec
    by_cases e : h2.choose = (r, j)
    · rw [e]
    · exact absurd hb (hd3 _ _ h3 S3 r j h' S' q1 hx (fun e' => e e') b q2)
  have fresh : ∀ b, isN b ∨ isU b → Unf w' b ∧ (w.heap.size ≤ b ∨ ∃ r j x, u r j = some x ∧ b ∈ G.fp r j) := by
    intro b hb
    refine hfree b ?_
    rcases hb with ⟨j, hj, hbj⟩ | ⟨p, h', S', q1, q2⟩
    · exact .inl ⟨j, hj, hbj⟩
    · exact .inr ⟨p.1, p.2, h', S', q1, q2⟩
  have notnew : ∀ b t, G.ow b = some t → (∀ r j, t = .leaf r j → u r j = none) → ¬ isN b ∧ ¬ isU b := by
    intro b t ht hl
    have hb := hS.lt b t ht
    have : ¬ (isN b ∨ isU b) := by
      intro hn
      rcases (fresh b hn).2 with h | ⟨r, j, x, q1, q2⟩
      · omega
      · rw [(ufp r j x q1 b q2).1] at ht; cases ht
        rw [hl r j rfl] at q1; cases q1
    exact ⟨fun h => this (.inl h), fun h => this (.inr h)⟩
  have owk : ∀ b t, G.ow b = some t → (∀ r j, t = .leaf r j → u r j = none) → G'.ow b = some t := by
    intro b t ht hl
    obtain ⟨h1, h2⟩ := notnew b t ht hl
    simp only [G', dif_neg h1, dif_neg h2]; exact ht
  have same : ∀ b t, G.ow b = some t → (∀ r j, t = .leaf r j → u r j = none) → w'.heap[b]? = w.heap[b]? := by
    intro b t ht hl
    refine hsame b (hS.lt b t ht) (fun r j x hx hb => ?_)
    rw [(ufp r j x hx b hb).1] at ht; cases ht
    rw [hl r j rfl] at hx; cases hx
  have st : Step g G w g' G' w' := by
    refine ⟨fun r j h e => ?_, fun b hb => ⟨owk b _ hb (fun r j e => by cases e), same b _ hb (fun r j e => by cases e)⟩, fun r y e => e⟩
    have hrd : r ≠ d := by rintro rfl; rw [hgd] at e; cases e
    cases hx : u r j with
    | none =>
      refine ⟨h, gl_some.2 (by rw [hgl, if_neg hrd, hx]; exact gl_some.1 e), .inl ⟨rfl, by simp [G', hrd], fun l hc b hb => ?_⟩⟩
      have := hS.hok e
      simp only [HOk, hc] at this
      exact same b _ (this.2.2 b hb).1 (fun r' j' e' => by cases e'; exact hx)
    | some x =>
      obtain ⟨h0, sz, es, es', e1, e2, e3, e4, _⟩ := hu r j x.1 x.2 hx
      rw [gl_some, e1] at e; cases e
      refine ⟨x.1, gl_some.2 (by rw [hgl, if_neg hrd, hx]), .inr (.inl ⟨by rw [e3], by rw [e3]; exact Nat.lt_succ_self _, by simp [G', hrd], sz, es, es', e2, by rw [e3], e4⟩)⟩
  refine ⟨G', ⟨hS.defers, hS.tm, ?_, ?_, ?_, ?_, ?_, ?_, ⟨hos.trans hS.frame.os, htape.trans hS.frame.tape, hout.trans hS.frame.output, Nat.le_trans hS.frame.size hsize, fun b hb hf => Eq.trans ?_ (hS.frame.block b hb hf)⟩, ?_, ?_, hS.aloc⟩, fun j => by simp [G']⟩
  · intro e y hy; rw [hgr] at hy
    obtain ⟨e1, y', e2, e3⟩ := hS.reg e y hy
    exact ⟨e1, y', e2, ROk.step hS st _ _ e3⟩
  · intro r k hk; rw [hgm] at hk
    by_cases c : r = d
    · rw [if_pos c] at hk; cases hk
    · rw [if_neg c] at hk
      obtain ⟨b, o, cur, ty, f1, f2, f3, f4, f5⟩ := hS.boxes r k hk
      exact ⟨b, o, cur, ty, f1, owk b _ f2 (fun r j e => by cases e), by rw [same b _ f2 (fun r j e => by cases e)]; exact f3, f4, fun j hj => by simp [G', c, f5 j hj]⟩
  · intro r j y hy; rw [hgl] at hy
    by_cases c : r = d
    · subst c
      rw [if_pos rfl] at hy
      cases e : hs[j]? with
      | none => simp [e] at hy
      | some h =>
        simp [e] at hy; subst hy
        have hj : j < hs.length := (List.getElem?_eq_some_iff.1 e).1
        refine ⟨h, hs.length, false, rfl, by rw [hgm, if_pos rfl], hj, ?_⟩
        obtain ⟨l, rfl, q1, q2⟩ := hnew j h e
        simp only [HOk]
        refine ⟨by simp only [G', if_true]; exact q1, by simp only [G', if_true]; exact q2, fun b hb => ?_⟩
        have hb' : b ∈ nf j := by simpa only [G', if_true] using hb
        exact ⟨ownN j hj b hb', (fresh b (.inl ⟨j, hj, hb'⟩)).1⟩
    · rw [if_neg c] at hy
      cases hx : u r j with
      | some x =>
        simp only [hx] at hy; cases hy
        obtain ⟨h0, sz, es, es', e1, e2, e3, e4, e5, e6⟩ := hu r j x.1 x.2 hx
        obtain ⟨h, k, bx, q1, q2, q3, _⟩ := hS.leaf r j _ e1
        refine ⟨x.1, k, bx, rfl, by rw [hgm, if_neg c]; exact q2, q3, ?_⟩
        rw [e3]
        simp only [HOk, G', if_neg c, hx]
        exact ⟨e5, e6, fun b hb => ⟨ownU r j x.1 x.2 hx b hb, (fresh b (.inr ⟨(r, j), x.1, x.2, hx, hb⟩)).1⟩⟩
      | none =>
        simp only [hx] at hy
        obtain ⟨h, k, bx, e1, e2, e3, e4⟩ := hS.leaf r j y hy
        refine ⟨h, k, bx, e1, by rw [hgm, if_neg c]; exact e2, e3, ?_⟩
        subst e1
        cases hc : h.c with
        | own l =>
          simp only [HOk, hc] at e4 ⊢
          simp only [G', if_neg c, hx]
          refine ⟨RdL.keep _ _ _ e4.1 (fun b hb => same b _ (e4.2.2 b hb).1 (fun r' j' e => by cases e; exact hx)), e4.2.1, fun b hb => ?_⟩
          obtain ⟨f1, cur, ty, f2⟩ := e4.2.2 b hb
          have hk := same b _ f1 (fun r' j' e => by cases e; exact hx)
          exact ⟨owk b _ f1 (fun r' j' e => by cases e; exact hx), cur, ty, by rw [hk]; exact f2⟩
        | ro l =>
          simp only [HOk, hc] at e4 ⊢
          obtain ⟨S', f1, f2⟩ := e4
          exact ⟨S', by simp only [G', if_neg c]; exact RdL.keep _ _ _ f1 (fun b hb => same b _ (f2 b hb) (fun r j e => by cases e)), fun b hb => owk b _ (f2 b hb) (fun r j e => by cases e)⟩
        | gone => simp only [HOk, hc]
  · intro r y hy; rw [hgm] at hy
    by_cases c : r = d
    · rw [if_pos c] at hy; cases hy; exact ⟨_, _, rfl⟩
    · rw [if_neg c] at hy; exact hS.metas r y hy
  · intro r y hy
    have c : r ≠ d := by rintro rfl; rw [show G'.loc r = G.loc r from rfl, hloc] at hy; cases hy
    obtain ⟨k, hk⟩ := hS.noloc r y hy
    exact ⟨k, by rw [hgm, if_neg c]; exact hk⟩
  · intro b t ht
    by_cases h1 : isN b
    · obtain ⟨cur, ty, f⟩ := (fresh b (.inl h1)).1
      exact (Array.getElem?_eq_some_iff.1 f).1
    · by_cases h2 : isU b
      · obtain ⟨cur, ty, f⟩ := (fresh b (.inr h2)).1
        exact (Array.getElem?_eq_some_iff.1 f).1
      · simp only [G', dif_neg h1, dif_neg h2] at ht
        exact Nat.lt_of_lt_of_le (hS.lt b t ht) hsize
  · refine hsame b (Nat.lt_of_lt_of_le hb hS.frame.size) (fun r j x hx hbf => ?_)
    rcases hS.frow b hb hf with e | e <;> rw [(ufp r j x hx b hbf).1] at e <;> cases e
  · intro b hb hf
    rcases hS.frow b hb hf with e | e
    · have : ¬ (isN b ∨ isU b) := by
        intro hn
        rcases (fresh b hn).2 with h | ⟨r, j, x, q1, q2⟩
        · have := hS.frame.size; omega
        · rw [(ufp r j x q1 b q2).1] at e; cases e
      left
      simp only [G', dif_neg (fun h => this (.inl h)), dif_neg (fun h => this (.inr h))]; exact e
    · exact .inr (owk b _ e (fun r j e => by cases e))
  · intro r j h e
    rw [gl_some, hgl] at e
    by_cases c : r = d
    · subst c
      rw [if_pos rfl, Option.map_eq_some_iff] at e
      obtain ⟨h2, e1, e2⟩ := e
      cases e2
      obtain ⟨l, rfl, _⟩ := hnew j h e1
      exact OrgOk.none
    · rw [if_neg c] at e
      simp only [G', if_neg c]
      cases hx : u r j with
      | none => simp only [hx] at e; exact hS.anc r j h (gl_some.2 e)
      | some x =>
        simp only [hx] at e; cases e
        obtain ⟨h0, sz, es, es', e1, e2, e3, _⟩ := hu r j x.1 x.2 hx
        intro i hi _
        rw [e3] at hi
        exact hS.anc r j h0 (gl_some.2 e1) i hi ⟨_, e2⟩

end
end Go.V
