/-
  The value-level condition generator, part 17: code and functions.
-/
import Derived.Test.YtebdoecpgpnphabV16
set_option linter.all false

namespace Go.V

inductive Ex where
  | normal
  | exit (id : Nat)
  | ret

def closedA (g : Gm) : A → Prop
  | .vw r j _ _ _ => (g (.leaf r j)).isSome = true
  | .pn r j _ _ _ => (g (.leaf r j)).isSome = true
  | .vn r j _ _ _ _ _ => (g (.leaf r j)).isSome = true
  | .pt r _ => ∃ k, g (.meta_ r) = some (.m k true)
  | _ => True
def closedAs (g : Gm) : List A → Prop
  | [] => True
  | x :: xs => closedA g x ∧ closedAs g xs
mutual
def closedR (g : Gm) : R → Prop
  | .one x => closedA g x
  | .agg xs => closedAs g xs
  | .tup rs => closedRs g rs
def closedRs (g : Gm) : List R → Prop
  | [] => True
  | r :: rs => closedR g r ∧ closedRs g rs
end

def leavesEq (g : Gm) (r : Nat) : Nat → List Hv → Prop
  | _, [] => True
  | j, h :: hs => g (.leaf r j) = some (.h h) ∧ leavesEq g r (j + 1) hs

/-- The state σ' says no more than σ. ('whole': σ' itself, for what its registers name.) -/
def SubL (g whole : Gm) : VS → Prop
  | [] => True
  | .reg d x :: τ => g (.reg d) = some (.r x) ∧ closedR whole x ∧ SubL g whole τ
  | .root r box hs :: τ => g (.meta_ r) = some (.m hs.length box) ∧ leavesEq g r 0 hs ∧ SubL g whole τ
  | .leaf _ _ _ :: _ => False

def Le (σ τ : VS) : Prop := SubL (get σ) (get τ) τ

def vwp (P : Program) (n : Nat) : Code → (Ex → VS → Prop) → VS → Prop
  | .skip, Q, σ => Q .normal σ
  | .region _ ops draw, Q, σ => draw = false ∧ vseq P n ops ops.toList σ (Q .normal)
  | .seq x y, Q, σ => vwp P n x (fun e σ' => match e with
      | .normal => vwp P n y Q σ'
      | .exit i => Q (.exit i) σ'
      | .ret => Q .ret σ') σ
  | .cond c x y, Q, σ => (evBool c .ret).wp (get σ) fun b => (b = true → vwp P n x Q σ) ∧ (b = false → vwp P n y Q σ)
  | .block id x, Q, σ => vwp P n x (fun e σ' => match e with
      | .normal => Q .normal σ'
      | .exit i => if i = id then Q .normal σ' else Q (.exit i) σ'
      | .ret => Q .ret σ') σ
  | .loop x, Q, σ => ∃ (α : Type) (S : α → VS) (rel : α → Prop) (μ : α → Nat), (∃ s0, rel s0 ∧ Le σ (S s0)) ∧
      ∀ s, rel s → vwp P n x (fun e σ' => match e with
        | .normal => ∃ s', rel s' ∧ μ s' < μ s ∧ Le σ' (S s')
        | .exit i => Q (.exit i) σ'
        | .ret => Q .ret σ') (S s)
  | .exit id, Q, σ => Q (.exit id) σ
  | .ret, Q, σ => Q .ret σ
  | .scope x, Q, σ => vwp P n x Q σ
  | _, _, _ => False

def exOf : Ex → Exit
  | .normal => .normal
  | .exit i => .exit i
  | .ret => .ret

section
variable {P : Program} {cx : Cx}

theorem SubL.sub {g whole : Gm} : ∀ {τ : VS}, SubL g whole τ → ∀ l v, get τ l = some v → g l = some v
  | [], _, l, v, h => by simp [get] at h
  | .reg d x :: τ, hs, l, v, h => by
    obtain ⟨h1, h2, h3⟩ := hs
    simp only [get, W.app] at h
    split at h
    · rename_i e; subst e; rw [← h]; exact h1
    · exact SubL.sub h3 l v h
  | .root r box hs :: τ, hsub, l, v, h => by
    obtain ⟨h1, h2, h3⟩ := hsub
    have hl : ∀ (hs : List Hv) (j i : Nat) (x : Hv), leavesEq g r j hs → hs[i]? = some x → g (.leaf r (j + i)) = some (.h x) := by
      intro hs
      induction hs with
      | nil => intro j i x _ e; simp at e
      | cons y hs ih =>
        intro j i x hle e
        cases i with
        | zero => simp at e; subst e; exact hle.1
        | succ i => simp at e; have := ih (j + 1) i x hle.2 e; rw [← this]; congr 2; omega
    cases l with
    | reg d => simp only [get, W.app] at h; exact SubL.sub h3 _ v h
    | leaf r' j =>
      simp only [get, W.app] at h
      split at h
      · rename_i e; subst e
        simp only [Option.map_eq_some_iff] at h
        obtain ⟨x, e1, rfl⟩ := h
        have := hl hs 0 j x h2 e1
        simpa using this
      · exact SubL.sub h3 _ v h
    | meta_ r' =>
      simp only [get, W.app] at h
      split at h
      · rename_i e; subst e; rw [← h]; exact h1
      · exact SubL.sub h3 _ v h
  | .leaf _ _ _ :: _, hs, _, _, _ => hs.elim

theorem SubL.regs {g whole : Gm} : ∀ {τ : VS}, SubL g whole τ → ∀ d x, get τ (.reg d) = some x → ∃ r, x = .r r ∧ closedR whole r
  | [], _, d, x, h => by simp [get] at h
  | .reg d' y :: τ, hs, d, x, h => by
    obtain ⟨h1, h2, h3⟩ := hs
    simp only [get, W.app] at h
    split at h
    · cases h; exact ⟨y, rfl, h2⟩
    · exact SubL.regs h3 d x h
  | .root r box hs :: τ, hsub, d, x, h => by
    simp only [get, W.app] at h; exact SubL.regs hsub.2.2 d x h
  | .leaf _ _ _ :: _, hs, _, _, _ => hs.elim

theorem SubL.metas {g whole : Gm} : ∀ {τ : VS}, SubL g whole τ → ∀ r j x, get τ (.leaf r j) = some x → ∃ k box, get τ (.meta_ r) = some (.m k box) ∧ j < k
  | [], _, r, j, x, h => by simp [get] at h
  | .reg d' y :: τ, hs, r, j, x, h => by
    simp only [get, W.app] at h ⊢
    rw [if_neg (by simp)] at h
    rw [if_neg (by simp)]
    exact SubL.metas hs.2.2 r j x h
  | .root r' box hs :: τ, hsub, r, j, x, h => by
    simp only [get, W.app] at h ⊢
    split at h
    · rename_i e; subst e
      rw [if_pos rfl]
      simp only [Option.map_eq_some_iff] at h
      obtain ⟨y, e1, _⟩ := h
      exact ⟨_, _, rfl, (List.getElem?_eq_some_iff.1 e1).1⟩
    · rename_i e
      rw [if_neg e]
      exact SubL.metas hsub.2.2 r j x h
  | .leaf _ _ _ :: _, hs, _, _, _, _ => hs.elim

theorem Le.sim {σ τ : VS} (h : Le σ τ) {a : Act} {w : World} (hS : Sim cx (get σ) a w) : Sim cx (get τ) a w := by
  obtain ⟨G, hS⟩ := hS
  have hsub := SubL.sub h
  have hgl : ∀ r j x, gl (get τ) r j = some x → gl (get σ) r j = some x := fun r j x e => gl_some.2 (hsub _ _ (gl_some.1 e))
  open Classical in
  let G' : Gh := { G with loc := fun r => if ∃ k, get τ (.meta_ r) = some (.m k true) then G.loc r else none }
  have hA : ∀ x v, closedA (get τ) x → AOk (gl (get σ)) G w x v → AOk (gl (get τ)) G' w x v := by
    intro x v hc hx
    have lf : ∀ r j, (get τ (.leaf r j)).isSome = true → ∀ h0, gl (get σ) r j = some h0 → gl (get τ) r j = some h0 := by
      intro r j hs h0 e
      cases e2 : get τ (.leaf r j) with
      | none => rw [e2] at hs; cases hs
      | some y =>
        have := hsub _ _ e2
        rw [gl_some] at e
        rw [e] at this; cases this
        exact gl_some.2 e2
    cases x with
    | pt r j =>
      obtain ⟨b, off, e1, e2⟩ := hx
      exact ⟨b, off, by simp only [G']; rw [if_pos (show ∃ k, get τ (.meta_ r) = some (.m k true) from hc)]; exact e1, e2⟩
    | vw r j ver lo n => obtain ⟨h0, e1, e2⟩ := hx; exact ⟨h0, lf r j hc h0 e1, e2⟩
    | pn r j ver iv p => obtain ⟨h0, e1, e2⟩ := hx; exact ⟨h0, lf r j hc h0 e1, e2⟩
    | vn r j ver iv p lo n => obtain ⟨h0, e1, e2⟩ := hx; exact ⟨h0, lf r j hc h0 e1, e2⟩
    | v y => exact hx
    | nl => exact hx
    | ro sz es => exact hx
    | rp rec j => exact hx
    | un => trivial
  have hAs : ∀ xs vs, closedAs (get τ) xs → AOks (gl (get σ)) G w xs vs → AOks (gl (get τ)) G' w xs vs := by
    intro xs
    induction xs with
    | nil => intro vs _ hx; exact hx
    | cons x xs ih =>
      intro vs hc hx
      obtain ⟨v, vs', e, h1, h2⟩ := hx
      exact ⟨v, vs', e, hA x v hc.1 h1, ih vs' hc.2 h2⟩
  have hR : ∀ r v, closedR (get τ) r → ROk (gl (get σ)) G w r v → ROk (gl (get τ)) G' w r v := by
    intro r
    induction r using R.rec (motive_2 := fun rs => ∀ vs, closedRs (get τ) rs → ROks (gl (get σ)) G w rs vs → ROks (gl (get τ)) G' w rs vs) with
    | one x => intro v hc hx; simp only [ROk, closedR] at *; exact hA x v hc hx
    | agg xs => intro v hc hx; simp only [ROk, closedR] at *; obtain ⟨vs, e, hx⟩ := hx; exact ⟨vs, e, hAs xs vs hc hx⟩
    | tup rs ih => intro v hc hx; simp only [ROk, closedR] at *; obtain ⟨vs, e, hx⟩ := hx; exact ⟨vs, e, ih vs hc hx⟩
    | nil => rename_i vs hc hx; exact hx
    | cons r rs ih1 ih2 =>
      rename_i vs hc hx
      simp only [ROks, closedRs] at *
      obtain ⟨v, vs', e, h1, h2⟩ := hx
      exact ⟨v, vs', e, ih1 v hc.1 h1, ih2 vs' hc.2 h2⟩
  refine ⟨G', hS.defers, hS.tm, ?_, ?_, ?_, ?_, ?_, hS.lt, hS.frame, hS.frow⟩
  · intro d x hx
    obtain ⟨r, rfl, hc⟩ := SubL.regs h d x hx
    obtain ⟨e1, r', e2, e3⟩ := hS.reg d _ (hsub _ _ hx)
    cases e2
    exact ⟨e1, r, rfl, hR r _ hc e3⟩
  · intro r k hk
    obtain ⟨b, off, cur, ty, f1, f2⟩ := hS.boxes r k (hsub _ _ hk)
    exact ⟨b, off, cur, ty, by simp only [G']; rw [if_pos ⟨k, hk⟩]; exact f1, f2⟩
  · intro r j x hx
    obtain ⟨h0, k, box, e1, e2, e3, e4⟩ := hS.leaf r j x (hsub _ _ hx)
    obtain ⟨k', box', m1, m2⟩ := SubL.metas h r j x hx
    exact ⟨h0, k', box', e1, m1, m2, e4⟩
  · intro r x hx; exact hS.metas r x (hsub _ _ hx)
  · intro r b hb
    simp only [G'] at hb
    split at hb
    · rename_i e; exact e
    · cases hb

theorem wp_loop_ghost {α : Type} {c : Code} {Q : Exit → Act → World → Prop} (I : α → Act → World → Prop) (μ : α → Nat) {a : Act} {w : World} (s0 : α) (h₀ : I s0 a w)
    (round : ∀ s a w, I s a w → c.wp P (Exit.then (fun a' w' => ∃ s', I s' a' w' ∧ μ s' < μ s) Q) a w) : (Code.loop c).wp P Q a w := by
  intro b k cs
  have key : ∀ n s a w, μ s = n → I s a w → ∃ e a' w', Q e a' w' ∧ Arrives P (lone (b.at a (.code c :: .inLoop c :: k)) cs w) b k cs e a' w' := by
    intro n
    induction n using Nat.strongRecOn with
    | _ n ih =>
      intro s a w hn hI
      obtain ⟨e, a₁, w₁, hq, harr⟩ := round s a w hI b (.inLoop c :: k) cs
      cases e with
      | normal =>
        obtain ⟨s', hI₁, hlt⟩ := hq
        obtain ⟨e₂, a₂, w₂, hq₂, harr₂⟩ := ih (μ s') (hn ▸ hlt) s' a₁ w₁ rfl hI₁
        exact ⟨e₂, a₂, w₂, hq₂, .of_steps (Steps.trans harr (.one step_inLoop)) harr₂⟩
      | exit id => exact ⟨_, a₁, w₁, hq, .pass (x := .inLoop c) rfl (fun _ _ => .inl (by simp)) harr⟩
      | goto l => exact ⟨_, a₁, w₁, hq, .pass (x := .inLoop c) rfl (fun _ _ => .inl (by simp)) harr⟩
      | ret => exact ⟨_, a₁, w₁, hq, .pass (x := .inLoop c) rfl (fun _ _ => .inl (by simp)) harr⟩
      | panic ch => exact ⟨_, a₁, w₁, hq, .pass (x := .inLoop c) rfl (fun _ _ => .inl (by simp)) harr⟩
      | outgrown => exact ⟨_, a₁, w₁, hq, .pass (x := .inLoop c) rfl (fun _ _ => .inl (by simp)) harr⟩
  obtain ⟨e, a', w', hq, harr⟩ := key _ s0 a w rfl h₀
  exact ⟨e, a', w', hq, .of_steps (.one step_loop) harr⟩

theorem vwp_sound {n : Nat} (hn : n = cx.n) : ∀ (c : Code) (Q : Ex → VS → Prop) (σ : VS) (a : Act) (w : World), vwp P n c Q σ → Sim cx (get σ) a w →
    c.wp P (fun e a' w' => ∃ ex σ', e = exOf ex ∧ Q ex σ' ∧ Sim cx (get σ') a' w') a w
  | .skip, Q, σ, a, w, h, hS => wp_skip ⟨.normal, σ, rfl, h, hS⟩
  | .region id ops draw, Q, σ, a, w, h, hS => by
    obtain ⟨rfl, h⟩ := h
    exact wp_region_list (vseq_sound hn _ σ _ a w h hS (fun σ' a' w' hq hs => ⟨.normal, σ', rfl, hq, hs⟩))
  | .seq x y, Q, σ, a, w, h, hS => by
    refine wp_seq (Code.wp_mono ?_ (vwp_sound hn x _ σ a w h hS))
    rintro e a' w' ⟨ex, σ', rfl, hq, hs⟩
    cases ex with
    | normal => exact vwp_sound hn y Q σ' a' w' hq hs
    | exit i => exact ⟨.exit i, σ', rfl, hq, hs⟩
    | ret => exact ⟨.ret, σ', rfl, hq, hs⟩
  | .cond c x y, Q, σ, a, w, h, hS => by
    obtain ⟨G, hG⟩ := id hS
    obtain ⟨ls, b, h1, h2⟩ := Rd.wp_runs h
    obtain ⟨b', ls', e, h3⟩ := evBool_sound hG h1
    simp only [Rd.Runs] at h3
    obtain ⟨_, rfl⟩ := h3
    refine wp_cond e ?_
    cases b with
    | true => exact vwp_sound hn x Q σ a w (h2.1 rfl) hS
    | false => exact vwp_sound hn y Q σ a w (h2.2 rfl) hS
  | .block id x, Q, σ, a, w, h, hS => by
    refine wp_block (Code.wp_mono ?_ (vwp_sound hn x _ σ a w h hS))
    rintro e a' w' ⟨ex, σ', rfl, hq, hs⟩
    cases ex with
    | normal => exact ⟨.normal, σ', rfl, hq, hs⟩
    | exit i =>
      simp only [exOf, Exit.inBlock]
      simp only at hq
      split at hq
      · rename_i e; rw [if_pos e]; exact ⟨.normal, σ', rfl, hq, hs⟩
      · rename_i e; rw [if_neg e]; exact ⟨.exit i, σ', rfl, hq, hs⟩
    | ret => exact ⟨.ret, σ', rfl, hq, hs⟩
  | .loop x, Q, σ, a, w, h, hS => by
    obtain ⟨α, S, rel, μ, ⟨s0, hr0, hle0⟩, hround⟩ := h
    refine wp_loop_ghost (fun s a w => rel s ∧ Sim cx (get (S s)) a w) μ s0 ⟨hr0, hle0.sim hS⟩ ?_
    rintro s a w ⟨hr, hs⟩
    refine Code.wp_mono ?_ (vwp_sound hn x _ (S s) a w (hround s hr) hs)
    rintro e a' w' ⟨ex, σ', rfl, hq, hs'⟩
    cases ex with
    | normal =>
      obtain ⟨s', k1, k2, k3⟩ := hq
      exact ⟨s', ⟨k1, k3.sim hs'⟩, k2⟩
    | exit i => exact ⟨.exit i, σ', rfl, hq, hs'⟩
    | ret => exact ⟨.ret, σ', rfl, hq, hs'⟩
  | .exit id, Q, σ, a, w, h, hS => wp_exit ⟨.exit id, σ, rfl, h, hS⟩
  | .ret, Q, σ, a, w, h, hS => wp_ret ⟨.ret, σ, rfl, h, hS⟩
  | .scope x, Q, σ, a, w, h, hS => by
    refine wp_scope_straight (Code.wp_mono ?_ (vwp_sound hn x Q σ a w h hS))
    rintro e a' w' ⟨ex, σ', rfl, hq, hs⟩
    cases ex with
    | normal => exact ⟨.normal, σ', rfl, hq, hs⟩
    | exit i => exact ⟨.exit i, σ', rfl, hq, hs⟩
    | ret => exact ⟨.ret, σ', rfl, hq, hs⟩
  | .rangeFunc _ _ _ _, Q, σ, a, w, h, hS => h.elim
  | .label _, Q, σ, a, w, h, hS => h.elim
  | .goto _, Q, σ, a, w, h, hS => h.elim
  | .refuse _, Q, σ, a, w, h, hS => h.elim

end

/-! ### Functions -/

/-- What the arguments are in the registers. -/
def argR : DV → R
  | .one l => .one (roA l)
  | .agg ls => .agg (ls.map roA)
def initV : Nat → List DV → VS
  | _, [] => []
  | p, d :: ds => .reg p (argR d) :: initV (p + 1) ds

def resD {α : Type} (P : Program) (t : TypeId) (rv : ResultVar) (k : DV → List (Nat × Nat) → Rd α) : Rd α :=
  match tyI P t with
  | none => .fail
  | some ti =>
    let fin (as : List A) : Rd α := takeAll ti.slots as fun lts srcs => if ti.agg then k (.agg (lts.map (·.1))) srcs else match lts with
      | [(l, _)] => k (.one l) srcs
      | _ => .fail
    match rv with
    | .tmp x => rdR x fun r => match r with
      | .one a => if ti.agg then .fail else fin [a]
      | .agg as => if ti.agg then fin as else .fail
      | .tup _ => .fail
    | .cell x t' => if t' == t then rdR x fun r => match r with
      | .one (.pt r j) => loadLeaves r j ti.zero.length fin
      | _ => .fail
      else .fail
def resDs {α : Type} (P : Program) : List TypeId → List ResultVar → (List DV → List (Nat × Nat) → Rd α) → Rd α
  | [], [], k => k [] []
  | t :: ts, rv :: rvs, k => resD P t rv fun d src => resDs P ts rvs fun ds srcs => k (d :: ds) (src ++ srcs)
  | _, _, _ => .fail

def vret (P : Program) (fn : Func) (σ : VS) (res : List DV) : Prop :=
  (resDs P fn.resultTypes.toList fn.results.toList fun ds srcs => .req (distinctP srcs = true ∧ ds = res) (.ret ())).wp (get σ) fun _ => True

end Go.V
