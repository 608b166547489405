/-
  The value-level condition generator, part 5: leaves that are taken out, new roots, leaves that are written.
-/
import Derived.Test.YtlpkkliogonmnaaV4
set_option linter.all false

namespace Go.V

theorem gl_some {g : Gm} {r j : Nat} {h : Hv} : gl g r j = some h ↔ g (.leaf r j) = some (.h h) := by
  unfold gl
  constructor
  · intro e; split at e
    · rename_i h' he; cases e; exact he
    · cases e
  · intro e; rw [e]

theorem SimG.hok {cx : Cx} {g : Gm} {G : Gh} {a : Act} {w : World} (hS : SimG cx G g a w) {r j : Nat} {h : Hv} (hh : gl g r j = some h) : HOk G w r j h := by
  obtain ⟨h2, k, box, e1, e2, e3, e4⟩ := hS.leaf r j _ (gl_some.1 hh)
  cases e1; exact e4

/-- A leaf is taken out. -/
theorem SimG.gone {cx : Cx} {g : Gm} {G : Gh} {a : Act} {w : World} (hS : SimG cx G g a w) {r j : Nat} {h : Hv} (hh : g (.leaf r j) = some (.h h)) (og : Option Nat) :
    SimG cx G ((W.leaf r j ⟨h.ver + 1, h.iv, og, .gone⟩).app g) a w := by
  have hr : ∀ d, (W.leaf r j ⟨h.ver + 1, h.iv, og, .gone⟩).app g (.reg d) = g (.reg d) := fun d => by simp [W.app]
  have hm : ∀ d, (W.leaf r j ⟨h.ver + 1, h.iv, og, .gone⟩).app g (.meta_ d) = g (.meta_ d) := fun d => by simp [W.app]
  have hl : ∀ r' j', (W.leaf r j ⟨h.ver + 1, h.iv, og, .gone⟩).app g (.leaf r' j') = if r' = r ∧ j' = j then some (.h ⟨h.ver + 1, h.iv, og, .gone⟩) else g (.leaf r' j') := fun r' j' => by simp [W.app]
  have st : Step g G w ((W.leaf r j ⟨h.ver + 1, h.iv, og, .gone⟩).app g) G w := by
    refine ⟨fun r' j' h' e => ?_, fun _ h => ⟨h, rfl⟩, fun _ _ h => h⟩
    by_cases c : r' = r ∧ j' = j
    · obtain ⟨rfl, rfl⟩ := c
      refine ⟨⟨h.ver + 1, h.iv, og, .gone⟩, gl_some.2 (by rw [hl, if_pos ⟨rfl, rfl⟩]), .inr (.inr ?_)⟩
      rw [gl_some, hh] at e; cases e; simp
    · exact ⟨h', gl_some.2 (by rw [hl, if_neg c]; exact gl_some.1 e), .inl ⟨rfl, rfl, fun _ _ _ _ => rfl⟩⟩
  refine ⟨hS.defers, hS.tm, ?_, ?_, ?_, ?_, ?_, hS.lt, hS.frame, hS.frow, ?_, hS.aloc⟩
  rotate_left 5
  · intro r' j' h' e
    rw [gl_some, hl] at e
    by_cases c : r' = r ∧ j' = j
    · rw [if_pos c] at e; cases e; exact OrgOk.gone
    · rw [if_neg c] at e; exact hS.anc r' j' h' (gl_some.2 e)
  · intro d y hy; rw [hr] at hy
    obtain ⟨e1, y', e2, e3⟩ := hS.reg d y hy
    exact ⟨e1, y', e2, ROk.step hS st _ _ e3⟩
  · intro r' k hk; rw [hm] at hk; exact hS.boxes r' k hk
  · intro r' j' y hy
    rw [hl] at hy
    by_cases c : r' = r ∧ j' = j
    · rw [if_pos c] at hy; cases hy
      obtain ⟨rfl, rfl⟩ := c
      obtain ⟨h2, k, box, e1, e2, e3, e4⟩ := hS.leaf _ _ _ hh
      exact ⟨_, k, box, rfl, by rw [hm]; exact e2, e3, trivial⟩
    · rw [if_neg c] at hy
      obtain ⟨h2, k, box, e1, e2, e3, e4⟩ := hS.leaf _ _ _ hy
      exact ⟨h2, k, box, e1, by rw [hm]; exact e2, e3, e4⟩
  · intro r' y hy; rw [hm] at hy; exact hS.metas r' y hy
  · intro r' b hb; obtain ⟨k, hk⟩ := hS.noloc r' b hb; exact ⟨k, by rw [hm]; exact hk⟩

/-- A block that nobody needs: new, or taken out of a leaf. -/
def Free (g : Gm) (G : Gh) (w : World) (b : Nat) : Prop :=
  w.heap.size ≤ b ∨ ∃ r j, G.ow b = some (.leaf r j) ∧ ∀ h l, gl g r j = some h → h.c = .own l → False

/-- What a new leaf holds. -/
def New (g : Gm) (G : Gh) (w w' : World) (h : Hv) (v : Value) (S : List Nat) : Prop :=
  match h.c with
  | .own l => RdL w' l v S ∧ S.Nodup ∧ ∀ b ∈ S, Unf w' b ∧ Free g G w b
  | .ro l => S = [] ∧ ∃ S', RdL w' l v S' ∧ ∀ b ∈ S', G.ow b = some .ro
  | .gone => S = []

theorem Same.trans {fr : Nat → Prop} {a b c : World} (h : Same fr a b) (k : Same fr b c) : Same fr a c :=
  ⟨k.os.trans h.os, k.tape.trans h.tape, k.output.trans h.output, Nat.le_trans h.size k.size, fun x hx hf => (k.block x (Nat.lt_of_lt_of_le hx h.size) hf).trans (h.block x hx hf)⟩
theorem Same.refl (fr : Nat → Prop) (a : World) : Same fr a a := ⟨rfl, rfl, rfl, Nat.le_refl _, fun _ _ _ => rfl⟩

open Classical in
/-- A new root. -/
theorem SimG.newRoot' {cx : Cx} {g : Gm} {G : Gh} {a : Act} {w : World} (hS : SimG cx G g a w) {d : Nat} (hd : g (.meta_ d) = none) (box : Bool) (hs : List Hv) (w' : World)
    (hos : w'.os = w.os) (htape : w'.tape = w.tape) (hout : w'.output = w.output) (hsize : w.heap.size ≤ w'.heap.size)
    (hsame : ∀ b, b < w.heap.size → (∀ r j, G.ow b = some (.leaf r j) → ∃ h l, gl g r j = some h ∧ h.c = .own l) → w'.heap[b]? = w.heap[b]?) (nv : Nat → Value) (nf : Nat → List Nat)
    (hnew : ∀ j h, hs[j]? = some h → New g G w w' h (nv j) (nf j)) (horg : ∀ j h, hs[j]? = some h → OrgOk cx h.c h.org (nv j))
    (hdis : ∀ i j, i < hs.length → j < hs.length → i ≠ j → ∀ b ∈ nf i, b ∉ nf j)
    (b0 off : Nat) (hbox : box = true → w.heap.size ≤ b0 ∧ (∃ cur ty, w'.heap[b0]? = some (.cells cur ty (0, 0)) ∧ off + hs.length ≤ cur.size ∧ ∀ j, j < hs.length → cur[off + j]? = some (nv j)) ∧ ∀ j, j < hs.length → b0 ∉ nf j) :
    ∃ G', SimG cx G' ((W.root d box hs).app g) a w' ∧ (∀ j, G'.val d j = nv j) ∧ (box = true → G'.loc d = some (b0, off)) ∧ Step g G w ((W.root d box hs).app g) G' w' ∧ (∀ b, (box = true → b ≠ b0) → (∀ j, j < hs.length → b ∉ nf j) → G'.ow b = G.ow b) := by
  have hlf : ∀ j, g (.leaf d j) = none := by
    intro j
    cases e : g (.leaf d j) with
    | none => rfl
    | some y => obtain ⟨h, k, bx, e1, e2, _⟩ := hS.leaf d j y e; rw [hd] at e2; cases e2
  have hgd : ∀ j, gl g d j = none := fun j => by simp [gl, hlf]
  have hloc : G.loc d = none := by
    cases e : G.loc d with
    | none => rfl
    | some y => obtain ⟨k, hk⟩ := hS.noloc d y e; rw [hd] at hk; cases hk
  let G' : Gh := {
    loc := fun r => if r = d then (if box then some (b0, off) else none) else G.loc r
    val := fun r j => if r = d then nv j else G.val r j
    fp := fun r j => if r = d then nf j else G.fp r j
    ow := fun b => if box = true ∧ b = b0 then some (.box d) else if h : ∃ j, j < hs.length ∧ b ∈ nf j then some (.leaf d h.choose) else G.ow b }
  have hfree : ∀ j, j < hs.length → ∀ b ∈ nf j, Unf w' b ∧ Free g G w b := by
    intro j hj b hb
    have hn := hnew j hs[j] (by simp [hj])
    unfold New at hn
    split at hn
    · exact hn.2.2 b hb
    · rw [hn.1] at hb; cases hb
    · rw [hn] at hb; cases hb
  -- tokens of the new blocks
  have owb : box = true → G'.ow b0 = some (.box d) := fun h => by simp [G', h]
  have own : ∀ j, j < hs.length → ∀ b ∈ nf j, G'.ow b = some (.leaf d j) := by
    intro j hj b hb
    have h1 : ¬ (box = true ∧ b = b0) := by
      rintro ⟨e1, rfl⟩; exact (hbox e1).2.2 j hj hb
    have h2 : ∃ j, j < hs.length ∧ b ∈ nf j := ⟨j, hj, hb⟩
    simp only [G', if_neg h1, dif_pos h2]
    have := h2.choose_spec
    by_cases e : h2.choose = j
    · rw [e]
    · exact absurd hb (hdis _ j this.1 hj e b this.2)
  -- a block that somebody needs keeps its token
  have owk : ∀ b t, G.ow b = some t → (∀ r j, t = .leaf r j → ∃ h l, gl g r j = some h ∧ h.c = .own l) → G'.ow b = some t := by
    intro b t ht hl
    have hb := hS.lt b t ht
    have h1 : ¬ (box = true ∧ b = b0) := by
      rintro ⟨e1, rfl⟩; have := (hbox e1).1; omega
    have h2 : ¬ ∃ j, j < hs.length ∧ b ∈ nf j := by
      rintro ⟨j, hj, hbj⟩
      rcases (hfree j hj b hbj).2 with h | ⟨r, j', e1, e2⟩
      · omega
      · rw [e1] at ht; cases ht
        obtain ⟨h, l, f1, f2⟩ := hl r j' rfl
        exact e2 h l f1 f2
    simp only [G', if_neg h1, dif_neg h2]; exact ht
  have hm : ∀ r, (W.root d box hs).app g (.meta_ r) = if r = d then some (.m hs.length box) else g (.meta_ r) := fun r => by simp [W.app]
  have hl : ∀ r j, (W.root d box hs).app g (.leaf r j) = if r = d then (hs[j]?).map .h else g (.leaf r j) := fun r j => by simp [W.app]
  have hr : ∀ e, (W.root d box hs).app g (.reg e) = g (.reg e) := fun e => by simp [W.app]
  have oldt : ∀ b t, G.ow b = some t → (∀ r j, t = .leaf r j → ∃ h l, gl g r j = some h ∧ h.c = .own l) → w'.heap[b]? = w.heap[b]? := fun b t ht hl =>
    hsame b (hS.lt b t ht) (fun r j e => hl r j (by rw [e] at ht; cases ht; rfl))
  have st : Step g G w ((W.root d box hs).app g) G' w' := by
    refine ⟨fun r j h e => ?_, fun b hb => ⟨owk b _ hb (fun r j e => by cases e), oldt b _ hb (fun r j e => by cases e)⟩, fun r y e => ?_⟩
    · have hrd : r ≠ d := by rintro rfl; rw [hgd] at e; cases e
      refine ⟨h, gl_some.2 (by rw [hl, if_neg hrd]; exact gl_some.1 e), .inl ⟨rfl, by simp [G', hrd], fun l hc b hb => ?_⟩⟩
      have := hS.hok e
      simp only [HOk, hc] at this
      exact oldt b _ (this.2.2 b hb).1 (fun r' j' e' => by cases e'; exact ⟨h, l, e, hc⟩)
    · have hrd : r ≠ d := by rintro rfl; rw [hloc] at e; cases e
      simp [G', hrd, e]
  have owold : ∀ b, b < w.heap.size → G.ow b = none → G'.ow b = none := by
    intro b hb hn
    have h1 : ¬ (box = true ∧ b = b0) := by
      rintro ⟨e1, rfl⟩; have := (hbox e1).1; omega
    have h2 : ¬ ∃ j, j < hs.length ∧ b ∈ nf j := by
      rintro ⟨j, hj, hbj⟩
      rcases (hfree j hj b hbj).2 with h | ⟨r, j', e1, e2⟩
      · omega
      · rw [e1] at hn; cases hn
    simp only [G', if_neg h1, dif_neg h2]; exact hn
  refine ⟨G', ⟨hS.defers, hS.tm, ?_, ?_, ?_, ?_, ?_, ?_, ⟨hos.trans hS.frame.os, htape.trans hS.frame.tape, hout.trans hS.frame.output, Nat.le_trans hS.frame.size hsize, fun b hb hf => Eq.trans (hsame b (Nat.lt_of_lt_of_le hb hS.frame.size) (fun r j e => by rcases hS.frow b hb hf with q | q <;> rw [e] at q <;> cases q)) (hS.frame.block b hb hf)⟩, ?_, ?_, ?_⟩, fun j => by simp [G'], fun h => by simp [G', h], st, fun b q1 q2 => by
    simp only [G']
    rw [if_neg (fun ⟨e1, e2⟩ => q1 e1 e2), dif_neg (fun ⟨j, e1, e2⟩ => q2 j e1 e2)]⟩
  rotate_left 7
  · intro r j h e
    rw [gl_some, hl] at e
    by_cases c : r = d
    · subst c
      rw [if_pos rfl, Option.map_eq_some_iff] at e
      obtain ⟨h2, e1, e2⟩ := e
      cases e2
      simp only [G', if_true]; exact horg j h e1
    · rw [if_neg c] at e
      simp only [G', if_neg c]; exact hS.anc r j h (gl_some.2 e)
  · intro r x hx
    have h1 := hS.aloc r x hx
    have hrd : r ≠ d := by rintro rfl; rw [hloc] at h1; cases h1
    simp only [G', if_neg hrd]; exact h1
  · intro e y hy; rw [hr] at hy
    obtain ⟨e1, y', e2, e3⟩ := hS.reg e y hy
    exact ⟨e1, y', e2, ROk.step hS st _ _ e3⟩
  · intro r k hk; rw [hm] at hk
    by_cases c : r = d
    · subst c
      rw [if_pos rfl] at hk; cases hk
      obtain ⟨f1, ⟨cur, ty, f2, f3, f4⟩, f5⟩ := hbox rfl
      exact ⟨b0, off, cur, ty, by simp [G'], owb rfl, f2, f3, fun j hj => by simp [G', f4 j hj]⟩
    · rw [if_neg c] at hk
      obtain ⟨b, o, cur, ty, f1, f2, f3, f4, f5⟩ := hS.boxes r k hk
      exact ⟨b, o, cur, ty, by simp [G', c, f1], owk b _ f2 (fun r j e => by cases e), by rw [oldt b _ f2 (fun r j e => by cases e)]; exact f3, f4, fun j hj => by simp [G', c, f5 j hj]⟩
  · intro r j y hy; rw [hl] at hy
    by_cases c : r = d
    · subst c
      rw [if_pos rfl] at hy
      cases e : hs[j]? with
      | none => simp [e] at hy
      | some h =>
        simp [e] at hy; subst hy
        have hj : j < hs.length := (List.getElem?_eq_some_iff.1 e).1
        refine ⟨h, hs.length, box, rfl, by rw [hm, if_pos rfl], hj, ?_⟩
        have hn := hnew j h e
        cases hc : h.c with
        | own l =>
          simp only [New, HOk, hc] at hn ⊢
          refine ⟨by simp only [G', if_true]; exact hn.1, by simp only [G', if_true]; exact hn.2.1, fun b hb => ?_⟩
          have hb' : b ∈ nf j := by simpa only [G', if_true] using hb
          exact ⟨own j hj b hb', (hfree j hj b hb').1⟩
        | ro l =>
          simp only [New, HOk, hc] at hn ⊢
          obtain ⟨e1, S', e2, e3⟩ := hn
          exact ⟨S', by simp only [G', if_true]; exact e2, fun b hb => owk b _ (e3 b hb) (fun r j e => by cases e)⟩
        | gone => simp only [HOk, hc]
    · rw [if_neg c] at hy
      obtain ⟨h, k, bx, e1, e2, e3, e4⟩ := hS.leaf r j y hy
      refine ⟨h, k, bx, e1, by rw [hm, if_neg c]; exact e2, e3, ?_⟩
      subst e1
      cases hc : h.c with
      | own l =>
        simp only [HOk, hc] at e4 ⊢
        refine ⟨?_, by simp only [G', if_neg c]; exact e4.2.1, fun b hb => ?_⟩
        · simp only [G', if_neg c]
          exact RdL.keep _ _ _ e4.1 (fun b hb => oldt b _ (e4.2.2 b hb).1 (fun r' j' e => by cases e; exact ⟨h, l, gl_some.2 hy, hc⟩))
        · have hb' : b ∈ G.fp r j := by simpa only [G', if_neg c] using hb
          obtain ⟨f1, f2⟩ := e4.2.2 b hb'
          exact ⟨owk b _ f1 (fun r' j' e => by cases e; exact ⟨h, l, gl_some.2 hy, hc⟩), by obtain ⟨cur, ty, q⟩ := f2; exact ⟨cur, ty, by rw [oldt b _ f1 (fun r' j' e => by cases e; exact ⟨h, l, gl_some.2 hy, hc⟩)]; exact q⟩⟩
      | ro l =>
        simp only [HOk, hc] at e4 ⊢
        obtain ⟨S', f1, f2⟩ := e4
        exact ⟨S', by simp only [G', if_neg c]; exact RdL.keep _ _ _ f1 (fun b hb => oldt b _ (f2 b hb) (fun r j e => by cases e)), fun b hb => owk b _ (f2 b hb) (fun r j e => by cases e)⟩
      | gone => simp only [HOk, hc]
  · intro r y hy; rw [hm] at hy
    by_cases c : r = d
    · rw [if_pos c] at hy; cases hy; exact ⟨_, _, rfl⟩
    · rw [if_neg c] at hy; exact hS.metas r y hy
  · intro r y hy
    by_cases c : r = d
    · subst c
      cases box with
      | true => exact ⟨hs.length, by rw [hm, if_pos rfl]⟩
      | false => simp [G'] at hy
    · simp only [G', if_neg c] at hy
      obtain ⟨k, hk⟩ := hS.noloc r y hy
      exact ⟨k, by rw [hm, if_neg c]; exact hk⟩
  · intro b t ht
    by_cases h1 : box = true ∧ b = b0
    · obtain ⟨e1, rfl⟩ := h1
      obtain ⟨_, ⟨cur, ty, f2, _⟩, _⟩ := hbox e1
      exact (Array.getElem?_eq_some_iff.1 f2).1
    · by_cases h2 : ∃ j, j < hs.length ∧ b ∈ nf j
      · obtain ⟨j, hj, hb⟩ := h2
        obtain ⟨cur, ty, f2⟩ := (hfree j hj b hb).1
        exact (Array.getElem?_eq_some_iff.1 f2).1
      · simp only [G', if_neg h1, dif_neg h2] at ht
        exact Nat.lt_of_lt_of_le (hS.lt b t ht) hsize
  · intro b hb hf
    have hb' : b < w.heap.size := Nat.lt_of_lt_of_le hb hS.frame.size
    rcases hS.frow b hb hf with h | h
    · exact .inl (owold b hb' h)
    · exact .inr (owk b _ h (fun r j e => by cases e))

theorem SimG.newRoot {cx : Cx} {g : Gm} {G : Gh} {a : Act} {w : World} (hS : SimG cx G g a w) {d : Nat} (hd : g (.meta_ d) = none) (box : Bool) (hs : List Hv) (w' : World)
    (hw : Same (fun _ => True) w w') (nv : Nat → Value) (nf : Nat → List Nat)
    (hnew : ∀ j h, hs[j]? = some h → New g G w w' h (nv j) (nf j)) (horg : ∀ j h, hs[j]? = some h → OrgOk cx h.c h.org (nv j))
    (hdis : ∀ i j, i < hs.length → j < hs.length → i ≠ j → ∀ b ∈ nf i, b ∉ nf j)
    (b0 off : Nat) (hbox : box = true → w.heap.size ≤ b0 ∧ (∃ cur ty, w'.heap[b0]? = some (.cells cur ty (0, 0)) ∧ off + hs.length ≤ cur.size ∧ ∀ j, j < hs.length → cur[off + j]? = some (nv j)) ∧ ∀ j, j < hs.length → b0 ∉ nf j) :
    ∃ G', SimG cx G' ((W.root d box hs).app g) a w' ∧ (∀ j, G'.val d j = nv j) ∧ (box = true → G'.loc d = some (b0, off)) ∧ Step g G w ((W.root d box hs).app g) G' w' ∧ (∀ b, (box = true → b ≠ b0) → (∀ j, j < hs.length → b ∉ nf j) → G'.ow b = G.ow b) :=
  hS.newRoot' hd box hs w' hw.os hw.tape hw.output hw.size (fun b hb _ => hw.block b hb trivial) nv nf hnew horg hdis b0 off hbox

open Classical in
/-- A leaf takes a new content; or its tree is written in place. -/
theorem SimG.upd {cx : Cx} {g : Gm} {G : Gh} {a : Act} {w : World} (hS : SimG cx G g a w) {r j : Nat} {h : Hv} (hh : g (.leaf r j) = some (.h h)) (h' : Hv) (nv : Value) (S : List Nat) (w' : World)
    (hstep : (h.ver < h'.ver ∧ h.iv ≤ h'.iv) ∨ (h'.ver = h.ver ∧ h.iv < h'.iv ∧ nv = G.val r j ∧ ∃ sz es es', h.c = .own (.s sz es) ∧ h'.c = .own (.s sz es') ∧ es'.length = es.length))
    (hos : w'.os = w.os) (htape : w'.tape = w.tape) (hout : w'.output = w.output) (hsize : w.heap.size ≤ w'.heap.size)
    (hch : ∀ b, b < w.heap.size → (∀ off, G.loc r ≠ some (b, off)) → (∀ l, h.c = .own l → b ∉ G.fp r j) → w'.heap[b]? = w.heap[b]?)
    (hboxc : ∀ b off, G.loc r = some (b, off) → ∃ cur cur' ty, w.heap[b]? = some (.cells cur ty (0, 0)) ∧ w'.heap[b]? = some (.cells cur' ty (0, 0)) ∧ cur'.size = cur.size ∧ (off + j < cur.size → cur'[off + j]? = some nv) ∧ ∀ i, i ≠ off + j → cur'[i]? = cur[i]?)
    (hfp : ∀ l, h.c = .own l → ∀ b ∈ G.fp r j, Unf w' b)
    (hnew : match h'.c with
      | .own l => RdL w' l nv S ∧ S.Nodup ∧ ∀ b ∈ S, Unf w' b ∧ (Free g G w b ∨ ∃ l, h.c = .own l ∧ b ∈ G.fp r j)
      | .ro l => ∃ S', RdL w' l nv S' ∧ ∀ b ∈ S', G.ow b = some .ro
      | .gone => True) (horg : OrgOk cx h'.c h'.org nv) :
    ∃ G', SimG cx G' ((W.leaf r j h').app g) a w' ∧ Step g G w ((W.leaf r j h').app g) G' w' ∧ (∀ r' j', G'.val r' j' = if r' = r ∧ j' = j then nv else G.val r' j') ∧ G'.loc = G.loc ∧ (∀ b, G.ow b = some .ro → G'.ow b = some .ro) ∧ (∀ b, ((∃ l, h'.c = .own l) → b ∉ S) → G'.ow b = G.ow b) := by
  have hokh := hS.hok (gl_some.2 hh)
  obtain ⟨h0, k0, bx0, e0, em, ej, _⟩ := hS.leaf r j _ hh
  cases e0
  have hlo : ∀ l, h.c = .own l → ∀ b ∈ G.fp r j, b < w.heap.size := by
    intro l hc b hb
    simp only [HOk, hc] at hokh
    exact RdL.lt _ _ _ hokh.1 b hb
  let isS : Nat → Prop := fun b => (∃ l, h'.c = .own l) ∧ b ∈ S
  let G' : Gh := {
    loc := G.loc
    val := fun r' j' => if r' = r ∧ j' = j then nv else G.val r' j'
    fp := fun r' j' => if r' = r ∧ j' = j then S else G.fp r' j'
    ow := fun b => if isS b then some (.leaf r j) else G.ow b }
  have hSb : ∀ b, isS b → Unf w' b ∧ (Free g G w b ∨ ∃ l, h.c = .own l ∧ b ∈ G.fp r j) := by
    rintro b ⟨⟨l, hc⟩, hb⟩
    simp only [hc] at hnew
    exact hnew.2.2 b hb
  -- a token that is still needed stays
  have owk : ∀ b t, G.ow b = some t → (∀ r1 j1, t = .leaf r1 j1 → ¬ (r1 = r ∧ j1 = j) ∧ ∃ h l, gl g r1 j1 = some h ∧ h.c = .own l) → G'.ow b = some t := by
    intro b t ht hl
    have hb := hS.lt b t ht
    by_cases c : isS b
    · exfalso
      rcases (hSb b c).2 with hf | ⟨l, hc, hbf⟩
      · rcases hf with hf | ⟨r1, j1, f1, f2⟩
        · omega
        · rw [f1] at ht; cases ht
          obtain ⟨_, h1, l1, q1, q2⟩ := hl r1 j1 rfl
          exact f2 h1 l1 q1 q2
      · simp only [HOk, hc] at hokh
        have := (hokh.2.2 b hbf).1
        rw [this] at ht; cases ht
        exact (hl r j rfl).1 ⟨rfl, rfl⟩
    · simp only [G', if_neg c]; exact ht
  have owro : ∀ b, G.ow b = some .ro → G'.ow b = some .ro := fun b hb => owk b _ hb (fun r1 j1 e => by cases e)
  have ne_box : ∀ b r1, G.ow b = some (.box r1) → r1 ≠ r → ∀ off, G.loc r ≠ some (b, off) := by
    intro b r1 hb hr1 off hl
    obtain ⟨k, hk⟩ := hS.noloc r _ hl
    obtain ⟨b', off', cur, ty, f1, f2, _⟩ := hS.boxes r k hk
    rw [hl] at f1; cases f1
    rw [hb] at f2; cases f2; exact hr1 rfl
  have box_ow : ∀ b off, G.loc r = some (b, off) → G.ow b = some (.box r) := by
    intro b off hl
    obtain ⟨k, hk⟩ := hS.noloc r _ hl
    obtain ⟨b', off', cur, ty, f1, f2, _⟩ := hS.boxes r k hk
    rw [hl] at f1; cases f1; exact f2
  have same : ∀ b t, G.ow b = some t → t ≠ .box r → t ≠ .leaf r j → w'.heap[b]? = w.heap[b]? := by
    intro b t ht h1 h2
    refine hch b (hS.lt b t ht) ?_ ?_
    · intro off hl; rw [box_ow b off hl] at ht; cases ht; exact h1 rfl
    · intro l hc hb
      simp only [HOk, hc] at hokh
      rw [(hokh.2.2 b hb).1] at ht; cases ht; exact h2 rfl
  have hr : ∀ d, (W.leaf r j h').app g (.reg d) = g (.reg d) := fun d => by simp [W.app]
  have hm : ∀ d, (W.leaf r j h').app g (.meta_ d) = g (.meta_ d) := fun d => by simp [W.app]
  have hl : ∀ r' j', (W.leaf r j h').app g (.leaf r' j') = if r' = r ∧ j' = j then some (.h h') else g (.leaf r' j') := fun r' j' => by simp [W.app]
  have st : Step g G w ((W.leaf r j h').app g) G' w' := by
    refine ⟨fun r1 j1 h1 e => ?_, fun b hb => ⟨owro b hb, same b _ hb (by simp) (by simp)⟩, fun _ _ h => h⟩
    by_cases c : r1 = r ∧ j1 = j
    · obtain ⟨rfl, rfl⟩ := c
      rw [gl_some, hh] at e; cases e
      refine ⟨h', gl_some.2 (by rw [hl, if_pos ⟨rfl, rfl⟩]), .inr ?_⟩
      rcases hstep with k | ⟨k1, k2, k3, k4⟩
      · exact .inr k
      · exact .inl ⟨k1, k2, by simp [G', k3], k4⟩
    · refine ⟨h1, gl_some.2 (by rw [hl, if_neg c]; exact gl_some.1 e), .inl ⟨rfl, by simp only [G', if_neg c], fun l hc b hb => ?_⟩⟩
      have := hS.hok e
      simp only [HOk, hc] at this
      exact same b _ (this.2.2 b hb).1 (by simp) (fun e => by cases e; exact c ⟨rfl, rfl⟩)
  have unf : ∀ b t, G.ow b = some t → t ≠ .box r → t ≠ .leaf r j → Unf w b → Unf w' b := fun b t ht h1 h2 ⟨cur, ty, h⟩ => ⟨cur, ty, by rw [same b t ht h1 h2]; exact h⟩
  refine ⟨G', ⟨hS.defers, hS.tm, ?_, ?_, ?_, ?_, ?_, ?_, ⟨hos.trans hS.frame.os, htape.trans hS.frame.tape, hout.trans hS.frame.output, Nat.le_trans hS.frame.size hsize, fun b hb hf => Eq.trans ?_ (hS.frame.block b hb hf)⟩, ?_, ?_, hS.aloc⟩, st, fun r' j' => rfl, rfl, owro, fun b hb => by simp only [G']; rw [if_neg (fun ⟨q1, q2⟩ => hb q1 q2)]⟩
  · intro d y hy; rw [hr] at hy
    obtain ⟨e1, y', e2, e3⟩ := hS.reg d y hy
    exact ⟨e1, y', e2, ROk.step hS st _ _ e3⟩
  · intro r1 k hk; rw [hm] at hk
    obtain ⟨b, off, cur, ty, f1, f2, f3, f4, f5⟩ := hS.boxes r1 k hk
    by_cases c : r1 = r
    · subst c
      obtain ⟨cur0, cur', ty', q1, q2, q3, q4, q5⟩ := hboxc b off f1
      rw [f3] at q1; cases q1
      refine ⟨b, off, cur', ty, f1, owk b _ f2 (fun r1 j1 e => by cases e), q2, by omega, fun j1 hj1 => ?_⟩
      by_cases cj : j1 = j
      · subst cj; simp only [G', true_and, if_true]; exact q4 (by omega)
      · simp only [G', cj, and_false, if_false]
        rw [q5 _ (by omega)]; exact f5 j1 hj1
    · exact ⟨b, off, cur, ty, f1, owk b _ f2 (fun r1 j1 e => by cases e), by rw [same b _ f2 (fun e => by cases e; exact c rfl) (by simp)]; exact f3, f4, fun j1 hj1 => by simp only [G', c, false_and, if_false]; exact f5 j1 hj1⟩
  · intro r1 j1 y hy; rw [hl] at hy
    by_cases c : r1 = r ∧ j1 = j
    · obtain ⟨rfl, rfl⟩ := c
      rw [if_pos ⟨rfl, rfl⟩] at hy; cases hy
      refine ⟨h', k0, bx0, rfl, by rw [hm]; exact em, ej, ?_⟩
      cases hc : h'.c with
      | own l =>
        simp only [hc] at hnew
        simp only [HOk, hc, G', and_self, if_true]
        exact ⟨hnew.1, hnew.2.1, fun b hb => ⟨by rw [if_pos ⟨⟨l, hc⟩, hb⟩], (hnew.2.2 b hb).1⟩⟩
      | ro l =>
        simp only [hc] at hnew
        simp only [HOk, hc, G', and_self, if_true]
        obtain ⟨S', q1, q2⟩ := hnew
        exact ⟨S', q1, fun b hb => owro b (q2 b hb)⟩
      | gone => simp only [HOk, hc]
    · rw [if_neg c] at hy
      obtain ⟨h1, k, bx, e1, e2, e3, e4⟩ := hS.leaf r1 j1 y hy
      refine ⟨h1, k, bx, e1, by rw [hm]; exact e2, e3, ?_⟩
      subst e1
      cases hc : h1.c with
      | own l =>
        simp only [HOk, hc, G', if_neg c] at e4 ⊢
        refine ⟨RdL.keep _ _ _ e4.1 (fun b hb => same b _ (e4.2.2 b hb).1 (by simp) (fun e => by cases e; exact c ⟨rfl, rfl⟩)), e4.2.1, fun b hb => ?_⟩
        obtain ⟨f1, f2⟩ := e4.2.2 b hb
        exact ⟨owk b _ f1 (fun r2 j2 e => by cases e; exact ⟨c, h1, l, gl_some.2 hy, hc⟩), unf b _ f1 (by simp) (fun e => by cases e; exact c ⟨rfl, rfl⟩) f2⟩
      | ro l =>
        simp only [HOk, hc, G', if_neg c] at e4 ⊢
        obtain ⟨S', f1, f2⟩ := e4
        exact ⟨S', RdL.keep _ _ _ f1 (fun b hb => same b _ (f2 b hb) (by simp) (by simp)), fun b hb => owro b (f2 b hb)⟩
      | gone => simp only [HOk, hc]
  · intro r1 y hy; rw [hm] at hy; exact hS.metas r1 y hy
  · intro r1 y hy; obtain ⟨k, hk⟩ := hS.noloc r1 y hy; exact ⟨k, by rw [hm]; exact hk⟩
  · intro b t ht
    by_cases c : isS b
    · obtain ⟨cur, ty, f⟩ := (hSb b c).1
      exact (Array.getElem?_eq_some_iff.1 f).1
    · simp only [G', if_neg c] at ht
      exact Nat.lt_of_lt_of_le (hS.lt b t ht) hsize
  · refine hch b (Nat.lt_of_lt_of_le hb hS.frame.size) ?_ ?_
    · intro off hlc
      rcases hS.frow b hb hf with e | e <;> rw [box_ow b off hlc] at e <;> cases e
    · intro l hc hbf
      simp only [HOk, hc] at hokh
      rcases hS.frow b hb hf with e | e <;> rw [(hokh.2.2 b hbf).1] at e <;> cases e
  · intro b hb hf
    rcases hS.frow b hb hf with e | e
    · by_cases c : isS b
      · exfalso
        rcases (hSb b c).2 with hfr | ⟨l, hc, hbf⟩
        · rcases hfr with q | ⟨r1, j1, q1, q2⟩
          · have := hS.frame.size; omega
          · rw [e] at q1; cases q1
        · simp only [HOk, hc] at hokh
          rw [(hokh.2.2 b hbf).1] at e; cases e
      · simp only [G', if_neg c]; exact .inl e
    · exact .inr (owro b e)
  · intro r1 j1 h1 e
    rw [gl_some, hl] at e
    by_cases c : r1 = r ∧ j1 = j
    · rw [if_pos c] at e; cases e
      simp only [G', if_pos c]; exact horg
    · rw [if_neg c] at e
      simp only [G', if_neg c]; exact hS.anc r1 j1 h1 (gl_some.2 e)

end Go.V
