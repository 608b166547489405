/-
  The value-level condition generator, part 26: code and functions, for evaluation.
-/
import Derived.Test.YtlpkkliogonmnaaV25
set_option linter.all false

namespace Go.V

/-! ### What a loop's head keeps -/

def ovReg : List W → Nat → Option R
  | [], _ => none
  | .reg d x :: ws, d' => if d.beq d' then some x else ovReg ws d'
  | _ :: ws, d' => ovReg ws d'
def ovLeaf : List W → Nat → Nat → Option Hv
  | [], _, _ => none
  | .leaf r j x :: ws, r', j' => if r.beq r' && j.beq j' then some x else ovLeaf ws r' j'
  | _ :: ws, r', j' => ovLeaf ws r' j'
def keepRegs (g : Gm) (ov : List W) : List Nat → VS
  | [] => []
  | d :: ds => match ovReg ov d with
    | some x => .reg d x :: keepRegs g ov ds
    | none => match g (.reg d) with
      | some (.r x) => .reg d x :: keepRegs g ov ds
      | _ => keepRegs g ov ds
def keepLeaves (g : Gm) (ov : List W) (r : Nat) : Nat → Nat → List Hv
  | _, 0 => []
  | j, m + 1 => match ovLeaf ov r j with
    | some h => h :: keepLeaves g ov r (j + 1) m
    | none => match g (.leaf r j) with
      | some (.h h) => h :: keepLeaves g ov r (j + 1) m
      | _ => ⟨0, 0, none, .gone⟩ :: keepLeaves g ov r (j + 1) m
def keepRoots (g : Gm) (ov : List W) : List Nat → VS
  | [] => []
  | r :: rs => match g (.meta_ r) with
    | some (.m k box) => .root r box (keepLeaves g ov r 0 k) :: keepRoots g ov rs
    | _ => keepRoots g ov rs
def keepS (σ : VS) (regs roots : List Nat) (ov : List W) : VS := keepRegs (get σ) ov regs ++ keepRoots (get σ) ov roots

def leafPair (g whole : Gm) (r j : Nat) (p : Hv → Hv → Prop) : Prop :=
  match g (.leaf r j) with
  | some (.h h') => match whole (.leaf r j) with
    | some (.h h) => p h' h
    | _ => False
  | _ => False
/-- A register's leaf, before and behind: the versions may be counted anew. -/
def eqAO (g whole : Gm) : A → A → Prop
  | .vw r j v' lo n, x => match x with
    | .vw r2 j2 v lo2 n2 => (Nat.beq r r2 && Nat.beq j j2) = true ∧ lo = lo2 ∧ n = n2 ∧ leafPair g whole r j fun h' h => h'.ver = v' ∧ h.ver = v
    | _ => False
  | .pn r j v' iv' p, x => match x with
    | .pn r2 j2 v iv p2 => (Nat.beq r r2 && Nat.beq j j2) = true ∧ p = p2 ∧ leafPair g whole r j fun h' h => h'.ver = v' ∧ h.ver = v ∧ h'.iv = iv' ∧ h.iv = iv
    | _ => False
  | .vn r j v' iv' p lo n, x => match x with
    | .vn r2 j2 v iv p2 lo2 n2 => (Nat.beq r r2 && Nat.beq j j2) = true ∧ p = p2 ∧ lo = lo2 ∧ n = n2 ∧ leafPair g whole r j fun h' h => h'.ver = v' ∧ h.ver = v ∧ h'.iv = iv' ∧ h.iv = iv
    | _ => False
  | .pt r j, x => x = .pt r j ∧ match whole (.meta_ r) with
    | some (.m _ true) => True
    | _ => False
  | .v y, x => x = .v y
  | .nl, x => x = .nl
  | .ro sz es, x => x = .ro sz es
  | .rp rec j, x => x = .rp rec j
  | .un, x => x = .un
def eqAsO (g whole : Gm) : List A → List A → Prop
  | [], [] => True
  | y :: ys, x :: xs => eqAO g whole y x ∧ eqAsO g whole ys xs
  | _, _ => False
mutual
def eqRO (g whole : Gm) : R → R → Prop
  | .one y, x => match x with
    | .one x => eqAO g whole y x
    | _ => False
  | .agg ys, x => match x with
    | .agg xs => eqAsO g whole ys xs
    | _ => False
  | .tup rs, x => match x with
    | .tup qs => eqRsO g whole rs qs
    | _ => False
def eqRsO (g whole : Gm) : List R → List R → Prop
  | [], xs => match xs with
    | [] => True
    | _ => False
  | r :: rs, xs => match xs with
    | q :: qs => eqRO g whole r q ∧ eqRsO g whole rs qs
    | _ => False
end
/-- The content of a leaf is at most what it was. -/
def leavesEqO (g : Gm) (r : Nat) : Nat → List Hv → Prop
  | _, [] => True
  | j, h :: hs => (match g (.leaf r j) with
    | some (.h h') => h'.c = h.c ∧ match h.org with
      | none => True
      | some i => h'.org = some i
    | _ => False) ∧ leavesEqO g r (j + 1) hs
def SubO (g whole : Gm) : VS → Prop
  | [] => True
  | .reg d x :: τ => (match g (.reg d) with
    | some (.r y) => eqRO g whole y x
    | _ => False) ∧ SubO g whole τ
  | .root r box hs :: τ => (match g (.meta_ r) with
    | some (.m k b) => k = hs.length ∧ b = box
    | _ => False) ∧ leavesEqO g r 0 hs ∧ SubO g whole τ
  | .leaf _ _ _ :: _ => False
/-- The roots that came with the call as variables in memory stay. -/
def keptA (g : Gm) : List Nat → Prop
  | [] => True
  | r :: rs => (match g (.meta_ r) with
    | some (.m _ true) => True
    | _ => False) ∧ keptA g rs
def LeO (an : List Nat) (σ τ : VS) : Prop := SubO (get σ) (get τ) τ ∧ keptA (get τ) an
theorem keptA_mem {g : Gm} : ∀ {an : List Nat}, keptA g an → ∀ r ∈ an, ∃ k, g (.meta_ r) = some (.m k true)
  | [], _, r, h => by cases h
  | a :: an, h, r, hr => by
    rcases List.mem_cons.1 hr with rfl | hr
    · obtain ⟨h, _⟩ := h
      split at h
      · rename_i k e; exact ⟨k, e⟩
      · exact h.elim
    · exact keptA_mem h.2 r hr

section
variable {P : Program} {cx : Cx}

theorem SubO.regs {g whole : Gm} : ∀ {τ : VS}, SubO g whole τ → ∀ d x, get τ (.reg d) = some x → ∃ r y, x = .r r ∧ g (.reg d) = some (.r y) ∧ eqRO g whole y r
  | [], _, d, x, h => by simp [get] at h
  | .reg d' y :: τ, hs, d, x, h => by
    obtain ⟨h1, h3⟩ := hs
    simp only [get, W.app] at h
    split at h
    · rename_i e; cases e; cases h
      split at h1
      · rename_i y' e'; exact ⟨_, _, rfl, e', h1⟩
      · exact h1.elim
    · exact SubO.regs h3 d x h
  | .root r box hs :: τ, hsub, d, x, h => by
    simp only [get, W.app] at h; exact SubO.regs hsub.2.2 d x h
  | .leaf _ _ _ :: _, hs, _, _, _ => hs.elim

theorem SubO.metas {g whole : Gm} : ∀ {τ : VS}, SubO g whole τ → ∀ r x, get τ (.meta_ r) = some x → (∃ k box, x = .m k box) ∧ g (.meta_ r) = some x
  | [], _, r, x, h => by simp [get] at h
  | .reg d' y :: τ, hs, r, x, h => by
    simp only [get, W.app] at h
    rw [if_neg (by simp)] at h
    exact SubO.metas hs.2 r x h
  | .root r' box hs :: τ, hsub, r, x, h => by
    obtain ⟨h1, h2, h3⟩ := hsub
    simp only [get, W.app] at h
    split at h
    · rename_i e; subst e; cases h
      split at h1
      · rename_i k b e'; obtain ⟨rfl, rfl⟩ := h1; exact ⟨⟨_, _, rfl⟩, e'⟩
      · exact h1.elim
    · exact SubO.metas h3 r x h
  | .leaf _ _ _ :: _, hs, _, _, _ => hs.elim

theorem leavesEqO.at {g : Gm} {r : Nat} : ∀ {hs : List Hv} {j i : Nat} {x : Hv}, leavesEqO g r j hs → hs[i]? = some x → ∃ h', g (.leaf r (j + i)) = some (.h h') ∧ h'.c = x.c ∧ (∀ o, x.org = some o → h'.org = some o)
  | [], _, _, _, _, h => by simp at h
  | y :: hs, j, i, x, hle, h => by
    obtain ⟨h1, h2⟩ := hle
    cases i with
    | zero =>
      simp at h; subst h
      split at h1
      · rename_i h' e
        refine ⟨h', e, h1.1, fun o ho => ?_⟩
        have := h1.2
        rw [ho] at this; exact this
      · exact h1.elim
    | succ i =>
      simp at h
      obtain ⟨h', e, e2⟩ := leavesEqO.at h2 h
      exact ⟨h', by rw [← e]; congr 2; omega, e2⟩

theorem SubO.leaves {g whole : Gm} : ∀ {τ : VS}, SubO g whole τ → ∀ r j x, get τ (.leaf r j) = some x → ∃ h h' k box, x = .h h ∧ g (.leaf r j) = some (.h h') ∧ (h'.c = h.c ∧ ∀ o, h.org = some o → h'.org = some o) ∧ get τ (.meta_ r) = some (.m k box) ∧ j < k
  | [], _, r, j, x, h => by simp [get] at h
  | .reg d' y :: τ, hs, r, j, x, h => by
    simp only [get, W.app] at h ⊢
    rw [if_neg (by simp)] at h
    rw [if_neg (by simp)]
    exact SubO.leaves hs.2 r j x h
  | .root r' box hs :: τ, hsub, r, j, x, h => by
    simp only [get, W.app] at h ⊢
    split at h
    · rename_i e; subst e
      rw [if_pos rfl]
      simp only [Option.map_eq_some_iff] at h
      obtain ⟨y, e1, rfl⟩ := h
      obtain ⟨h', e2, e3⟩ := leavesEqO.at hsub.2.1 e1
      rw [Nat.zero_add] at e2
      exact ⟨y, h', _, _, rfl, e2, e3, rfl, (List.getElem?_eq_some_iff.1 e1).1⟩
    · rename_i e
      rw [if_neg e]
      exact SubO.leaves hsub.2.2 r j x h
  | .leaf _ _ _ :: _, hs, _, _, _, _ => hs.elim

theorem LeO.sim {an : List Nat} (ha : ∀ r x, cx.aloc r = some x → r ∈ an) {σ τ : VS} (h : LeO an σ τ) {a : Act} {w : World} (hS : Sim cx (get σ) a w) : Sim cx (get τ) a w := by
  obtain ⟨G, hS⟩ := hS
  obtain ⟨h, hk⟩ := h
  open Classical in
  let G' : Gh := { G with loc := fun r => if ∃ k, get τ (.meta_ r) = some (.m k true) then G.loc r else none }
  have pair : ∀ r j (p : Hv → Hv → Prop), leafPair (get σ) (get τ) r j p → ∀ h0, gl (get σ) r j = some h0 → ∃ h1, gl (get τ) r j = some h1 ∧ p h0 h1 ∧ h1.c = h0.c := by
    intro r j p hs h0 e
    rw [gl_some] at e
    unfold leafPair at hs
    rw [e] at hs
    simp only at hs
    split at hs
    · rename_i h1 e1
      obtain ⟨y, h', _, _, q1, q2, q3, _⟩ := SubO.leaves h r j _ e1
      cases q1
      rw [e] at q2; cases q2
      exact ⟨h1, gl_some.2 e1, hs, q3.1.symm⟩
    · exact hs.elim
  have beq : ∀ {r r2 j j2 : Nat}, (Nat.beq r r2 && Nat.beq j j2) = true → r = r2 ∧ j = j2 := by
    intro r r2 j j2 e
    simp only [Bool.and_eq_true] at e
    exact ⟨Nat.eq_of_beq_eq_true e.1, Nat.eq_of_beq_eq_true e.2⟩
  have hA : ∀ y x v, eqAO (get σ) (get τ) y x → AOk (gl (get σ)) G w y v → AOk (gl (get τ)) G' w x v := by
    intro y x v hc hx
    cases y with
    | pt r j =>
      obtain ⟨rfl, hc⟩ := hc
      obtain ⟨b, off, e1, e2⟩ := hx
      refine ⟨b, off, ?_, e2⟩
      split at hc
      · rename_i k e; simp only [G']; rw [if_pos ⟨k, e⟩]; exact e1
      · exact hc.elim
    | vw r j v' lo n =>
      cases x with
      | vw r2 j2 ver lo2 n2 =>
        obtain ⟨e, rfl, rfl, hp⟩ := hc
        obtain ⟨rfl, rfl⟩ := beq e
        obtain ⟨h0, e1, e2, e3⟩ := hx
        obtain ⟨h1, f1, ⟨f2, f3⟩, f4⟩ := pair r j _ hp h0 e1
        exact ⟨h1, f1, by omega, fun _ sz es qc => e3 f2 sz es (by rw [← f4]; exact qc)⟩
      | _ => exact hc.elim
    | pn r j v' iv' p =>
      cases x with
      | pn r2 j2 ver iv p2 =>
        obtain ⟨e, rfl, hp⟩ := hc
        obtain ⟨rfl, rfl⟩ := beq e
        obtain ⟨h0, e1, e2, e3, e4, e5⟩ := hx
        obtain ⟨h1, f1, ⟨f2, f3, f5, f6⟩, f4⟩ := pair r j _ hp h0 e1
        exact ⟨h1, f1, by omega, by omega, e4, fun _ l qc => e5 (by simp [good, f2, f5]) l (by rw [← f4]; exact qc)⟩
      | _ => exact hc.elim
    | vn r j v' iv' p lo n =>
      cases x with
      | vn r2 j2 ver iv p2 lo2 n2 =>
        obtain ⟨e, rfl, rfl, rfl, hp⟩ := hc
        obtain ⟨rfl, rfl⟩ := beq e
        obtain ⟨h0, e1, e2, e3, e4, e5⟩ := hx
        obtain ⟨h1, f1, ⟨f2, f3, f5, f6⟩, f4⟩ := pair r j _ hp h0 e1
        exact ⟨h1, f1, by omega, by omega, e4, fun _ l rec o sz es qc => e5 (by simp [goodN, f2, f5]) l rec o sz es (by rw [← f4]; exact qc)⟩
      | _ => exact hc.elim
    | v y => have hc : x = _ := hc; subst hc; exact hx
    | nl => have hc : x = _ := hc; subst hc; exact hx
    | ro sz es => have hc : x = _ := hc; subst hc; exact hx
    | rp rec j => have hc : x = _ := hc; subst hc; exact hx
    | un => have hc : x = _ := hc; subst hc; trivial
  have hAs : ∀ ys xs vs, eqAsO (get σ) (get τ) ys xs → AOks (gl (get σ)) G w ys vs → AOks (gl (get τ)) G' w xs vs := by
    intro ys
    induction ys with
    | nil => intro xs vs hc hx; cases xs with
      | nil => exact hx
      | cons _ _ => exact hc.elim
    | cons y ys ih =>
      intro xs vs hc hx
      cases xs with
      | nil => exact hc.elim
      | cons x xs =>
        obtain ⟨v, vs', e, h1, h2⟩ := hx
        exact ⟨v, vs', e, hA y x v hc.1 h1, ih xs vs' hc.2 h2⟩
  have hR : ∀ y x v, eqRO (get σ) (get τ) y x → ROk (gl (get σ)) G w y v → ROk (gl (get τ)) G' w x v := by
    intro y
    induction y using R.rec (motive_2 := fun ys => ∀ xs vs, eqRsO (get σ) (get τ) ys xs → ROks (gl (get σ)) G w ys vs → ROks (gl (get τ)) G' w xs vs) with
    | one y =>
      intro x v hc hx
      cases x with
      | one x => simp only [ROk, eqRO] at *; exact hA y x v hc hx
      | agg _ => simp [eqRO] at hc
      | tup _ => simp [eqRO] at hc
    | agg ys =>
      intro x v hc hx
      cases x with
      | agg xs => simp only [ROk, eqRO] at *; obtain ⟨vs, e, hx⟩ := hx; exact ⟨vs, e, hAs ys xs vs hc hx⟩
      | one _ => simp [eqRO] at hc
      | tup _ => simp [eqRO] at hc
    | tup ys ih =>
      intro x v hc hx
      cases x with
      | tup xs => simp only [ROk, eqRO] at *; obtain ⟨vs, e, hx⟩ := hx; exact ⟨vs, e, ih xs vs hc hx⟩
      | one _ => simp [eqRO] at hc
      | agg _ => simp [eqRO] at hc
    | nil =>
      rename_i xs vs hc hx
      cases xs with
      | nil => exact hx
      | cons _ _ => simp [eqRsO] at hc
    | cons r rs ih1 ih2 =>
      rename_i xs vs hc hx
      cases xs with
      | nil => simp [eqRsO] at hc
      | cons q qs =>
        simp only [ROks, eqRsO] at *
        obtain ⟨v, vs', e, h1, h2⟩ := hx
        exact ⟨v, vs', e, ih1 q v hc.1 h1, ih2 qs vs' hc.2 h2⟩
  refine ⟨G', hS.defers, hS.tm, ?_, ?_, ?_, ?_, ?_, hS.lt, hS.frame, hS.frow, ?_, ?_⟩
  · intro d x hx
    obtain ⟨r, y, rfl, he, hc⟩ := SubO.regs h d x hx
    obtain ⟨e1, r', e2, e3⟩ := hS.reg d _ he
    cases e2
    exact ⟨e1, r, rfl, hR y r _ hc e3⟩
  · intro r k hk
    obtain ⟨b, off, cur, ty, f1, f2⟩ := hS.boxes r k (SubO.metas h r _ hk).2
    exact ⟨b, off, cur, ty, by simp only [G']; rw [if_pos ⟨k, hk⟩]; exact f1, f2⟩
  · intro r j x hx
    obtain ⟨y, h', k, box, rfl, q2, q3, q4, q5⟩ := SubO.leaves h r j x hx
    obtain ⟨h0, k0, box0, e1, e2, e3, e4⟩ := hS.leaf r j _ q2
    cases e1
    refine ⟨y, k, box, rfl, q4, q5, ?_⟩
    unfold HOk at e4 ⊢
    rw [q3.1] at e4
    exact e4
  · intro r x hx; exact (SubO.metas h r x hx).1
  · intro r b hb
    simp only [G'] at hb
    split at hb
    · rename_i e; exact e
    · cases hb
  · intro r j h0 e i hi hl
    obtain ⟨y, h', k, box, e1, q2, q3, q4, q5⟩ := SubO.leaves h r j _ (gl_some.1 e)
    cases e1
    exact hS.anc r j h' (gl_some.2 q2) i (q3.2 i hi) (by rw [q3.1]; exact hl)
  · intro r x hx
    have := keptA_mem hk r (ha r x hx)
    simp only [G']
    rw [if_pos this]
    exact hS.aloc r x hx

theorem Sim.drawn {g : Gm} {a : Act} {w : World} (h : Sim cx g a w) (k : Nat) : Sim cx g a { w with drawn := k } := by
  obtain ⟨G, hS⟩ := h
  let w' : World := { w with drawn := k }
  have st : Step g G w g G w' := ⟨fun r j h hh => ⟨h, hh, .inl ⟨rfl, rfl, fun _ _ _ _ => rfl⟩⟩, fun b hb => ⟨hb, rfl⟩, fun r x h => h⟩
  refine ⟨G, hS.defers, hS.tm, ?_, hS.boxes, ?_, hS.metas, hS.noloc, hS.lt, ⟨hS.frame.os, hS.frame.tape, hS.frame.output, hS.frame.size, hS.frame.block⟩, hS.frow, hS.anc, hS.aloc⟩
  · intro d x hx
    obtain ⟨e1, r, e2, e3⟩ := hS.reg d x hx
    exact ⟨e1, r, e2, ROk.step hS st _ _ e3⟩
  · intro r j x hx
    obtain ⟨h, k', box, e1, e2, e3, e4⟩ := hS.leaf r j x hx
    refine ⟨h, k', box, e1, e2, e3, ?_⟩
    unfold HOk at e4 ⊢
    split at e4
    · exact ⟨RdL.keep (w' := w') _ _ _ e4.1 (fun _ _ => rfl), e4.2⟩
    · obtain ⟨S, h1, h2⟩ := e4
      exact ⟨S, RdL.keep (w' := w') _ _ _ h1 (fun _ _ => rfl), h2⟩
    · trivial

end
end Go.V
