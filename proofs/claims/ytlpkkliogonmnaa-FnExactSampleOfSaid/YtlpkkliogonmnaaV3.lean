/-
  The value-level condition generator, part 3: how the abstract state speaks of the model's.
-/
import Derived.Test.YtlpkkliogonmnaaV2
set_option linter.all false

namespace Go.V

inductive Tok where
  | box (r : Nat)
  | leaf (r j : Nat)
  | ro

structure Gh where
  loc : Nat → Option (Nat × Nat)
  val : Nat → Nat → Value
  fp : Nat → Nat → List Nat
  ow : Nat → Option Tok

structure Cx where
  n : Nat
  w0 : World
  fr : Nat → Prop
  anc : Nat → Value
  aloc : Nat → Option (Nat × Nat)

/-- 'v' is a slice over n of the elements of the slice 'hv', from the lo-th on. -/
def ViewOf (hv : Value) (sz lo n : Nat) (v : Value) : Prop :=
  ∃ base len cap base' cap', hv = .slice base len cap ∧ v = .slice base' n cap' ∧ n ≤ cap' ∧ cap' ≤ cap ∧ (lo = 0 → n = len → v = hv) ∧
    ((cap = 0 ∧ cap' = 0) ∨ ∃ b off off', base = some ⟨b, off, none⟩ ∧ base' = some ⟨b, off', none⟩ ∧ off' + cap' * sz ≤ off + cap * sz ∧ (0 < n → off' = off + lo * sz))

/-- The address of a leaf in a tree. -/
def TAddr (w : World) : L → Value → List (Nat × Nat) → Nat → Nat → Prop
  | .s sz es, hv, (i, j) :: p, b, o => ∃ b1 off len cap, hv = .slice (some ⟨b1, off, none⟩) len cap ∧ i < es.length ∧
      match p with
      | [] => b = b1 ∧ o = off + i * sz + j
      | q :: p => ∃ l' v', ((es[i]?).bind (·[j]?)) = some l' ∧ w.cell? ⟨b1, off + i * sz + j, none⟩ = some v' ∧ TAddr w l' v' (q :: p) b o
  | _, _, _, _, _ => False

def AOk (γ : Nat → Nat → Option Hv) (G : Gh) (w : World) : A → Value → Prop
  | .v x, v => v = x
  | .nl, v => v = .slice none 0 0
  | .ro sz es, v => ∃ S, RdL w (.s sz es) v S ∧ ∀ b ∈ S, G.ow b = some .ro
  | .rp rec j, v => ∃ b off cur ty fz S, v = .pointer (some ⟨b, off + j, none⟩) ∧ w.heap[b]? = some (.cells cur ty fz) ∧ G.ow b = some .ro ∧ off + rec.length ≤ cur.size ∧
      RdRec w rec ((cur.toList.drop off).take rec.length) S ∧ ∀ b ∈ S, G.ow b = some .ro
  | .pt r j, v => ∃ b off, G.loc r = some (b, off) ∧ v = .pointer (some ⟨b, off + j, none⟩)
  | .pn r j ver iv p, v => ∃ h, γ r j = some h ∧ ver ≤ h.ver ∧ iv ≤ h.iv ∧ p ≠ [] ∧ (good h ver iv p = true → ∀ l, h.c = .own l → ∃ b o, TAddr w l (G.val r j) p b o ∧ v = .pointer (some ⟨b, o, none⟩))
  | .vw r j ver lo n, v => ∃ h, γ r j = some h ∧ ver ≤ h.ver ∧ (h.ver = ver → ∀ sz es, h.c = .own (.s sz es) → lo + n ≤ es.length ∧ ViewOf (G.val r j) sz lo n v)
  | .vn r j ver iv p lo n, v => ∃ h, γ r j = some h ∧ ver ≤ h.ver ∧ iv ≤ h.iv ∧ p ≠ [] ∧ (goodN h ver iv = true → ∀ l rec o sz es, h.c = .own l → getR l p = some (rec, o) → rec[o]? = some (.s sz es) →
      ∃ b oo hv, TAddr w l (G.val r j) p b oo ∧ w.cell? ⟨b, oo, none⟩ = some hv ∧ lo + n ≤ es.length ∧ ViewOf hv sz lo n v)
  | .un, _ => True

def AOks (γ : Nat → Nat → Option Hv) (G : Gh) (w : World) : List A → List Value → Prop
  | [], vs => vs = []
  | a :: as, vs => ∃ v vs', vs = v :: vs' ∧ AOk γ G w a v ∧ AOks γ G w as vs'

mutual
def ROk (γ : Nat → Nat → Option Hv) (G : Gh) (w : World) : R → Value → Prop
  | .one a, v => AOk γ G w a v
  | .agg as, v => ∃ vs : List Value, v = .agg vs.toArray ∧ AOks γ G w as vs
  | .tup rs, v => ∃ vs : List Value, v = .tuple vs.toArray ∧ ROks γ G w rs vs
def ROks (γ : Nat → Nat → Option Hv) (G : Gh) (w : World) : List R → List Value → Prop
  | [], vs => vs = []
  | r :: rs, vs => ∃ v vs', vs = v :: vs' ∧ ROk γ G w r v ∧ ROks γ G w rs vs'
end

def gl (g : Gm) (r j : Nat) : Option Hv := match g (.leaf r j) with
  | some (.h h) => some h
  | _ => none

def HOk (G : Gh) (w : World) (r j : Nat) (h : Hv) : Prop :=
  match h.c with
  | .own l => RdL w l (G.val r j) (G.fp r j) ∧ (G.fp r j).Nodup ∧ ∀ b ∈ G.fp r j, G.ow b = some (.leaf r j) ∧ Unf w b
  | .ro l => ∃ S, RdL w l (G.val r j) S ∧ ∀ b ∈ S, G.ow b = some .ro
  | .gone => True

/-- A leaf that came with the call keeps its value. -/
def OrgOk (cx : Cx) (c : H) (og : Option Nat) (v : Value) : Prop := ∀ i, og = some i → (∃ l, c = .own l) → v = cx.anc i
theorem OrgOk.none {cx : Cx} {c : H} {v : Value} : OrgOk cx c Option.none v := fun i e => by cases e
theorem OrgOk.gone {cx : Cx} {og : Option Nat} {v : Value} : OrgOk cx .gone og v := fun i _ ⟨l, e⟩ => by cases e
def OrgsOk (cx : Cx) : List (H × Option Nat) → List Value → Prop
  | (c, og) :: lts, v :: vs => OrgOk cx c og v ∧ OrgsOk cx lts vs
  | _, _ => True

structure SimG (cx : Cx) (G : Gh) (g : Gm) (a : Act) (w : World) : Prop where
  defers : a.defers = []
  tm : a.tmps.size = cx.n
  reg : ∀ d x, g (.reg d) = some x → d < cx.n ∧ ∃ r, x = .r r ∧ ROk (gl g) G w r (a.tmps.getD d undef)
  boxes : ∀ r k, g (.meta_ r) = some (.m k true) → ∃ b off cur ty, G.loc r = some (b, off) ∧ G.ow b = some (.box r) ∧ w.heap[b]? = some (.cells cur ty (0, 0)) ∧ off + k ≤ cur.size ∧
    ∀ j, j < k → cur[off + j]? = some (G.val r j)
  leaf : ∀ r j x, g (.leaf r j) = some x → ∃ h k box, x = .h h ∧ g (.meta_ r) = some (.m k box) ∧ j < k ∧ HOk G w r j h
  metas : ∀ r x, g (.meta_ r) = some x → ∃ k box, x = .m k box
  noloc : ∀ r b, G.loc r = some b → ∃ k, g (.meta_ r) = some (.m k true)
  lt : ∀ b t, G.ow b = some t → b < w.heap.size
  frame : Same cx.fr cx.w0 w
  frow : ∀ b, b < cx.w0.heap.size → cx.fr b → G.ow b = none ∨ G.ow b = some .ro
  anc : ∀ r j h, gl g r j = some h → OrgOk cx h.c h.org (G.val r j)
  aloc : ∀ r x, cx.aloc r = some x → G.loc r = some x

def Sim (cx : Cx) (g : Gm) (a : Act) (w : World) : Prop := ∃ G, SimG cx G g a w

/-! ### Readings in a world that has kept their blocks -/

mutual
theorem RdL.keep {w w' : World} : ∀ (l : L) (v : Value) (S : List Nat), RdL w l v S → (∀ b ∈ S, w'.heap[b]? = w.heap[b]?) → RdL w' l v S
  | .v x, v, S, h, _ => by simpa [RdL] using h
  | .g, v, S, h, _ => by simpa [RdL] using h
  | .s sz es, v, S, h, hk => by
    simp only [RdL] at h ⊢
    obtain ⟨base, len, cap, h1, h2, h3, h4, h5⟩ := h
    refine ⟨base, len, cap, h1, h2, h3, h4, ?_⟩
    rcases h5 with h5 | ⟨b, off, cur, ty, fz, S', e1, e2, e3, e4, e5⟩
    · exact .inl h5
    · subst e5
      refine .inr ⟨b, off, cur, ty, fz, S', e1, ?_, e3, RdEs.keep sz es _ _ e4 (fun c hc => hk c (by simp [hc])), rfl⟩
      rw [hk b (by simp), e2]
theorem RdRec.keep {w w' : World} : ∀ (ls : List L) (vs : List Value) (S : List Nat), RdRec w ls vs S → (∀ b ∈ S, w'.heap[b]? = w.heap[b]?) → RdRec w' ls vs S
  | [], vs, S, h, _ => by simpa [RdRec] using h
  | l :: ls, vs, S, h, hk => by
    simp only [RdRec] at h ⊢
    obtain ⟨v, vs', S1, S2, e1, h1, h2, e2⟩ := h
    subst e2
    exact ⟨v, vs', S1, S2, e1, RdL.keep l v S1 h1 (fun c hc => hk c (by simp [hc])), RdRec.keep ls vs' S2 h2 (fun c hc => hk c (by simp [hc])), rfl⟩
theorem RdEs.keep {w w' : World} (sz : Nat) : ∀ (es : List (List L)) (vs : List Value) (S : List Nat), RdEs w sz es vs S → (∀ b ∈ S, w'.heap[b]? = w.heap[b]?) → RdEs w' sz es vs S
  | [], vs, S, h, _ => by simpa [RdEs] using h
  | e :: es, vs, S, h, hk => by
    simp only [RdEs] at h ⊢
    obtain ⟨v1, v2, S1, S2, e1, hl, h1, h2, e2⟩ := h
    subst e2
    exact ⟨v1, v2, S1, S2, e1, hl, RdRec.keep e v1 S1 h1 (fun c hc => hk c (by simp [hc])), RdEs.keep sz es v2 S2 h2 (fun c hc => hk c (by simp [hc])), rfl⟩
end

mutual
theorem RdL.lt {w : World} : ∀ (l : L) (v : Value) (S : List Nat), RdL w l v S → ∀ b ∈ S, b < w.heap.size
  | .v x, v, S, h, b, hb => by simp only [RdL] at h; rw [h.2.2] at hb; cases hb
  | .g, v, S, h, b, hb => by simp only [RdL] at h; rw [h.2] at hb; cases hb
  | .s sz es, v, S, h, b, hb => by
    simp only [RdL] at h
    obtain ⟨base, len, cap, h1, h2, h3, h4, h5⟩ := h
    rcases h5 with h5 | ⟨b', off, cur, ty, fz, S', e1, e2, e3, e4, e5⟩
    · rw [h5.2] at hb; cases hb
    · subst e5
      rcases List.mem_cons.1 hb with rfl | hb
      · exact (Array.getElem?_eq_some_iff.1 e2).1
      · exact RdEs.lt sz es _ _ e4 b hb
theorem RdRec.lt {w : World} : ∀ (ls : List L) (vs : List Value) (S : List Nat), RdRec w ls vs S → ∀ b ∈ S, b < w.heap.size
  | [], vs, S, h, b, hb => by simp only [RdRec] at h; rw [h.2] at hb; cases hb
  | l :: ls, vs, S, h, b, hb => by
    simp only [RdRec] at h
    obtain ⟨v, vs', S1, S2, e1, h1, h2, e2⟩ := h
    subst e2
    rcases List.mem_append.1 hb with hb | hb
    · exact RdL.lt l v S1 h1 b hb
    · exact RdRec.lt ls vs' S2 h2 b hb
theorem RdEs.lt {w : World} (sz : Nat) : ∀ (es : List (List L)) (vs : List Value) (S : List Nat), RdEs w sz es vs S → ∀ b ∈ S, b < w.heap.size
  | [], vs, S, h, b, hb => by simp only [RdEs] at h; rw [h.2] at hb; cases hb
  | e :: es, vs, S, h, b, hb => by
    simp only [RdEs] at h
    obtain ⟨v1, v2, S1, S2, e1, hl, h1, h2, e2⟩ := h
    subst e2
    rcases List.mem_append.1 hb with hb | hb
    · exact RdRec.lt e v1 S1 h1 b hb
    · exact RdEs.lt sz es v2 S2 h2 b hb
end

theorem RdRec.length {w : World} : ∀ {ls : List L} {vs : List Value} {S : List Nat}, RdRec w ls vs S → vs.length = ls.length
  | [], vs, S, h => by simp only [RdRec] at h; simp [h.1]
  | l :: ls, vs, S, h => by
    simp only [RdRec] at h
    obtain ⟨v, vs', S1, S2, e1, h1, h2, e2⟩ := h
    simp [e1, RdRec.length h2]
theorem RdEs.length {w : World} {sz : Nat} : ∀ {es : List (List L)} {vs : List Value} {S : List Nat}, RdEs w sz es vs S → vs.length = es.length * sz
  | [], vs, S, h => by simp only [RdEs] at h; simp [h.1]
  | e :: es, vs, S, h => by
    simp only [RdEs] at h
    obtain ⟨v1, v2, S1, S2, e1, hl, h1, h2, e2⟩ := h
    simp [e1, RdEs.length h2, hl, Nat.add_mul, Nat.add_comm]

/-- The element at a place, with the part of the footprint that is its own. -/
theorem RdEs.at {w : World} {sz : Nat} : ∀ {es : List (List L)} {vs : List Value} {S : List Nat}, RdEs w sz es vs S → ∀ (i : Nat) (e : List L), es[i]? = some e →
    ∃ Sa S1 Sb, S = Sa ++ S1 ++ Sb ∧ e.length = sz ∧ RdRec w e ((vs.drop (i * sz)).take sz) S1
  | [], vs, S, h, i, e, he => by simp at he
  | e0 :: es, vs, S, h, i, e, he => by
    simp only [RdEs] at h
    obtain ⟨v1, v2, S1, S2, e1, hl, h1, h2, e2⟩ := h
    subst e1 e2
    cases i with
    | zero =>
      simp at he; subst he
      refine ⟨[], S1, S2, by simp, by rw [← h1.length, hl], ?_⟩
      simpa [← hl] using h1
    | succ i =>
      simp at he
      obtain ⟨Sa, Sm, Sb, e3, e4, e5⟩ := RdEs.at h2 i e he
      refine ⟨S1 ++ Sa, Sm, Sb, by simp [e3], e4, ?_⟩
      have : (v1 ++ v2).drop ((i + 1) * sz) = v2.drop (i * sz) := by
        rw [List.drop_append, List.drop_of_length_le (by rw [hl, Nat.add_mul]; omega), List.nil_append, hl, Nat.add_mul]
        congr 1; omega
      rw [this]; exact e5

/-- A leaf of a record. -/
theorem RdRec.at {w : World} : ∀ {ls : List L} {vs : List Value} {S : List Nat}, RdRec w ls vs S → ∀ (j : Nat) (l : L), ls[j]? = some l →
    ∃ Sa S1 Sb v, S = Sa ++ S1 ++ Sb ∧ vs[j]? = some v ∧ RdL w l v S1
  | [], vs, S, h, j, l, hl => by simp at hl
  | l0 :: ls, vs, S, h, j, l, hl => by
    simp only [RdRec] at h
    obtain ⟨v, vs', S1, S2, e1, h1, h2, e2⟩ := h
    subst e1 e2
    cases j with
    | zero => simp at hl; subst hl; exact ⟨[], S1, S2, v, by simp, by simp, h1⟩
    | succ j =>
      simp at hl
      obtain ⟨Sa, Sm, Sb, v', e3, e4, e5⟩ := RdRec.at h2 j l hl
      exact ⟨S1 ++ Sa, Sm, Sb, v', by simp [e3], by simpa using e4, e5⟩

end Go.V
