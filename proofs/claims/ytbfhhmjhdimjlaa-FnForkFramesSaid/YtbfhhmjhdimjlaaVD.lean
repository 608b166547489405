/-
  A condition generator for functions on trees of data, part 4 of 4: values in memory, contracts, soundness.
-/
import Derived.Test.YtbfhhmjhdimjlaaVC
import Derived.IntWalk
import Derived.ProofKit

set_option linter.all false

/-
  The value-level condition generator, part 26: code and functions, for evaluation.
-/
namespace Go.V

/-! ### What a loop's head keeps -/

def ovReg : List W → Nat → Option R
  | [], _ => none
  | .reg d x :: ws, d' => if d.beq d' then some x else ovReg ws d'
  | _ :: ws, d' => ovReg ws d'
def ovLeaf : List W → Nat → Nat → Option Hv
  | [], _, _ => none
  | .leaf r j x :: ws, r', j' => if r.beq r' && j.beq j' then some x else ovLeaf ws r' j'
  | _ :: ws, r', j' => ovLeaf ws r' j'
def keepRegs (g : Gm) (ov : List W) : List Nat → VS
  | [] => []
  | d :: ds => match ovReg ov d with
    | some x => .reg d x :: keepRegs g ov ds
    | none => match g (.reg d) with
      | some (.r x) => .reg d x :: keepRegs g ov ds
      | _ => keepRegs g ov ds
def keepLeaves (g : Gm) (ov : List W) (r : Nat) : Nat → Nat → List Hv
  | _, 0 => []
  | j, m + 1 => match ovLeaf ov r j with
    | some h => h :: keepLeaves g ov r (j + 1) m
    | none => match g (.leaf r j) with
      | some (.h h) => h :: keepLeaves g ov r (j + 1) m
      | _ => ⟨0, 0, none, .gone⟩ :: keepLeaves g ov r (j + 1) m
def keepRoots (g : Gm) (ov : List W) : List Nat → VS
  | [] => []
  | r :: rs => match g (.meta_ r) with
    | some (.m k box) => .root r box (keepLeaves g ov r 0 k) :: keepRoots g ov rs
    | _ => keepRoots g ov rs
def keepS (σ : VS) (regs roots : List Nat) (ov : List W) : VS := keepRegs (get σ) ov regs ++ keepRoots (get σ) ov roots

def leafPair (g whole : Gm) (r j : Nat) (p : Hv → Hv → Prop) : Prop :=
  match g (.leaf r j) with
  | some (.h h') => match whole (.leaf r j) with
    | some (.h h) => p h' h
    | _ => False
  | _ => False
/-- The captured variables stay. -/
def capsKept (whole : Gm) : List Cap → Prop
  | [] => True
  | .pt r _ :: cs => (match whole (.meta_ r) with
    | some (.m _ true) => True
    | _ => False) ∧ capsKept whole cs
  | .rp _ _ :: cs => capsKept whole cs
/-- A register's leaf, before and behind: the versions may be counted anew. -/
def eqAO (g whole : Gm) : A → A → Prop
  | .vw r j v' lo n, x => match x with
    | .vw r2 j2 v lo2 n2 => (Nat.beq r r2 && Nat.beq j j2) = true ∧ lo = lo2 ∧ n = n2 ∧ leafPair g whole r j fun h' h => h'.ver = v' ∧ h.ver = v
    | _ => False
  | .pn r j v' iv' p, x => match x with
    | .pn r2 j2 v iv p2 => (Nat.beq r r2 && Nat.beq j j2) = true ∧ p = p2 ∧ leafPair g whole r j fun h' h => h'.ver = v' ∧ h.ver = v ∧ h'.iv = iv' ∧ h.iv = iv
    | _ => False
  | .vn r j v' iv' p lo n, x => match x with
    | .vn r2 j2 v iv p2 lo2 n2 => (Nat.beq r r2 && Nat.beq j j2) = true ∧ p = p2 ∧ lo = lo2 ∧ n = n2 ∧ leafPair g whole r j fun h' h => h'.ver = v' ∧ h.ver = v ∧ h'.iv = iv' ∧ h.iv = iv
    | _ => False
  | .pt r j, x => x = .pt r j ∧ match whole (.meta_ r) with
    | some (.m _ true) => True
    | _ => False
  | .v y, x => x = .v y
  | .nl, x => x = .nl
  | .ro sz es, x => x = .ro sz es
  | .rp rec j, x => x = .rp rec j
  | .fn f caps, x => x = .fn f caps ∧ capsKept whole caps
  | .mv r j v', x => match x with
    | .mv r2 j2 v => (Nat.beq r r2 && Nat.beq j j2) = true ∧ leafPair g whole r j fun h' h => h'.ver = v' ∧ h.ver = v
    | _ => False
  | .un, x => x = .un
def eqAsO (g whole : Gm) : List A → List A → Prop
  | [], [] => True
  | y :: ys, x :: xs => eqAO g whole y x ∧ eqAsO g whole ys xs
  | _, _ => False
mutual
def eqRO (g whole : Gm) : R → R → Prop
  | .one y, x => match x with
    | .one x => eqAO g whole y x
    | _ => False
  | .agg ys, x => match x with
    | .agg xs => eqAsO g whole ys xs
    | _ => False
  | .tup rs, x => match x with
    | .tup qs => eqRsO g whole rs qs
    | _ => False
def eqRsO (g whole : Gm) : List R → List R → Prop
  | [], xs => match xs with
    | [] => True
    | _ => False
  | r :: rs, xs => match xs with
    | q :: qs => eqRO g whole r q ∧ eqRsO g whole rs qs
    | _ => False
end
/-- The content of a leaf is at most what it was. -/
def leavesEqO (g : Gm) (r : Nat) : Nat → List Hv → Prop
  | _, [] => True
  | j, h :: hs => (match g (.leaf r j) with
    | some (.h h') => h'.c = h.c ∧ match h.org with
      | none => True
      | some i => h'.org = some i
    | _ => False) ∧ leavesEqO g r (j + 1) hs
def SubO (g whole : Gm) : VS → Prop
  | [] => True
  | .reg d x :: τ => (match g (.reg d) with
    | some (.r y) => eqRO g whole y x
    | _ => False) ∧ SubO g whole τ
  | .root r box hs :: τ => (match g (.meta_ r) with
    | some (.m k b) => k = hs.length ∧ b = box
    | _ => False) ∧ leavesEqO g r 0 hs ∧ SubO g whole τ
  | .leaf _ _ _ :: _ => False
/-- The roots that came with the call as variables in memory stay. -/
def keptA (g : Gm) : List Nat → Prop
  | [] => True
  | r :: rs => (match g (.meta_ r) with
    | some (.m _ true) => True
    | _ => False) ∧ keptA g rs
def LeO (an : List Nat) (σ τ : VS) : Prop := SubO (get σ) (get τ) τ ∧ keptA (get τ) an
theorem keptA_mem {g : Gm} : ∀ {an : List Nat}, keptA g an → ∀ r ∈ an, ∃ k, g (.meta_ r) = some (.m k true)
  | [], _, r, h => by cases h
  | a :: an, h, r, hr => by
    rcases List.mem_cons.1 hr with rfl | hr
    · obtain ⟨h, _⟩ := h
      split at h
      · rename_i k e; exact ⟨k, e⟩
      · exact h.elim
    · exact keptA_mem h.2 r hr

section
variable {P : Program} {cx : Cx}

theorem SubO.regs {g whole : Gm} : ∀ {τ : VS}, SubO g whole τ → ∀ d x, get τ (.reg d) = some x → ∃ r y, x = .r r ∧ g (.reg d) = some (.r y) ∧ eqRO g whole y r
  | [], _, d, x, h => by simp [get] at h
  | .reg d' y :: τ, hs, d, x, h => by
    obtain ⟨h1, h3⟩ := hs
    simp only [get, W.app] at h
    split at h
    · rename_i e; cases e; cases h
      split at h1
      · rename_i y' e'; exact ⟨_, _, rfl, e', h1⟩
      · exact h1.elim
    · exact SubO.regs h3 d x h
  | .root r box hs :: τ, hsub, d, x, h => by
    simp only [get, W.app] at h; exact SubO.regs hsub.2.2 d x h
  | .leaf _ _ _ :: _, hs, _, _, _ => hs.elim

theorem SubO.metas {g whole : Gm} : ∀ {τ : VS}, SubO g whole τ → ∀ r x, get τ (.meta_ r) = some x → (∃ k box, x = .m k box) ∧ g (.meta_ r) = some x
  | [], _, r, x, h => by simp [get] at h
  | .reg d' y :: τ, hs, r, x, h => by
    simp only [get, W.app] at h
    rw [if_neg (by simp)] at h
    exact SubO.metas hs.2 r x h
  | .root r' box hs :: τ, hsub, r, x, h => by
    obtain ⟨h1, h2, h3⟩ := hsub
    simp only [get, W.app] at h
    split at h
    · rename_i e; subst e; cases h
      split at h1
      · rename_i k b e'; obtain ⟨rfl, rfl⟩ := h1; exact ⟨⟨_, _, rfl⟩, e'⟩
      · exact h1.elim
    · exact SubO.metas h3 r x h
  | .leaf _ _ _ :: _, hs, _, _, _ => hs.elim

theorem leavesEqO.at {g : Gm} {r : Nat} : ∀ {hs : List Hv} {j i : Nat} {x : Hv}, leavesEqO g r j hs → hs[i]? = some x → ∃ h', g (.leaf r (j + i)) = some (.h h') ∧ h'.c = x.c ∧ (∀ o, x.org = some o → h'.org = some o)
  | [], _, _, _, _, h => by simp at h
  | y :: hs, j, i, x, hle, h => by
    obtain ⟨h1, h2⟩ := hle
    cases i with
    | zero =>
      simp at h; subst h
      split at h1
      · rename_i h' e
        refine ⟨h', e, h1.1, fun o ho => ?_⟩
        have := h1.2
        rw [ho] at this; exact this
      · exact h1.elim
    | succ i =>
      simp at h
      obtain ⟨h', e, e2⟩ := leavesEqO.at h2 h
      exact ⟨h', by rw [← e]; congr 2; omega, e2⟩

theorem SubO.leaves {g whole : Gm} : ∀ {τ : VS}, SubO g whole τ → ∀ r j x, get τ (.leaf r j) = some x → ∃ h h' k box, x = .h h ∧ g (.leaf r j) = some (.h h') ∧ (h'.c = h.c ∧ ∀ o, h.org = some o → h'.org = some o) ∧ get τ (.meta_ r) = some (.m k box) ∧ j < k
  | [], _, r, j, x, h => by simp [get] at h
  | .reg d' y :: τ, hs, r, j, x, h => by
    simp only [get, W.app] at h ⊢
    rw [if_neg (by simp)] at h
    rw [if_neg (by simp)]
    exact SubO.leaves hs.2 r j x h
  | .root r' box hs :: τ, hsub, r, j, x, h => by
    simp only [get, W.app] at h ⊢
    split at h
    · rename_i e; subst e
      rw [if_pos rfl]
      simp only [Option.map_eq_some_iff] at h
      obtain ⟨y, e1, rfl⟩ := h
      obtain ⟨h', e2, e3⟩ := leavesEqO.at hsub.2.1 e1
      rw [Nat.zero_add] at e2
      exact ⟨y, h', _, _, rfl, e2, e3, rfl, (List.getElem?_eq_some_iff.1 e1).1⟩
    · rename_i e
      rw [if_neg e]
      exact SubO.leaves hsub.2.2 r j x h
  | .leaf _ _ _ :: _, hs, _, _, _, _ => hs.elim

theorem LeO.sim {an : List Nat} (ha : ∀ r x, cx.aloc r = some x → r ∈ an) {σ τ : VS} (h : LeO an σ τ) {a : Act} {w : World} (hS : Sim cx (get σ) a w) : Sim cx (get τ) a w := by
  obtain ⟨G, hS⟩ := hS
  obtain ⟨h, hk⟩ := h
  open Classical in
  let G' : Gh := { G with loc := fun r => if ∃ k, get τ (.meta_ r) = some (.m k true) then G.loc r else none }
  have pair : ∀ r j (p : Hv → Hv → Prop), leafPair (get σ) (get τ) r j p → ∀ h0, gl (get σ) r j = some h0 → ∃ h1, gl (get τ) r j = some h1 ∧ p h0 h1 ∧ h1.c = h0.c := by
    intro r j p hs h0 e
    rw [gl_some] at e
    unfold leafPair at hs
    rw [e] at hs
    simp only at hs
    split at hs
    · rename_i h1 e1
      obtain ⟨y, h', _, _, q1, q2, q3, _⟩ := SubO.leaves h r j _ e1
      cases q1
      rw [e] at q2; cases q2
      exact ⟨h1, gl_some.2 e1, hs, q3.1.symm⟩
    · exact hs.elim
  have beq : ∀ {r r2 j j2 : Nat}, (Nat.beq r r2 && Nat.beq j j2) = true → r = r2 ∧ j = j2 := by
    intro r r2 j j2 e
    simp only [Bool.and_eq_true] at e
    exact ⟨Nat.eq_of_beq_eq_true e.1, Nat.eq_of_beq_eq_true e.2⟩
  have hA : ∀ y x v, eqAO (get σ) (get τ) y x → AOk (gl (get σ)) G w y v → AOk (gl (get τ)) G' w x v := by
    intro y x v hc hx
    cases y with
    | pt r j =>
      obtain ⟨rfl, hc⟩ := hc
      obtain ⟨b, off, e1, e2⟩ := hx
      refine ⟨b, off, ?_, e2⟩
      split at hc
      · rename_i k e; simp only [G']; rw [if_pos ⟨k, e⟩]; exact e1
      · exact hc.elim
    | mv r j v' =>
      cases x with
      | mv r2 j2 ver =>
        obtain ⟨e, hp⟩ := hc
        obtain ⟨rfl, rfl⟩ := beq e
        obtain ⟨h0, e1, e2, e3⟩ := hx
        obtain ⟨h1, f1, ⟨f2, f3⟩, f4⟩ := pair r j _ hp h0 e1
        exact ⟨h1, f1, by omega, fun _ kb es qc => e3 f2 kb es (by rw [← f4]; exact qc)⟩
      | _ => exact hc.elim
    | vw r j v' lo n =>
      cases x with
      | vw r2 j2 ver lo2 n2 =>
        obtain ⟨e, rfl, rfl, hp⟩ := hc
        obtain ⟨rfl, rfl⟩ := beq e
        obtain ⟨h0, e1, e2, e3⟩ := hx
        obtain ⟨h1, f1, ⟨f2, f3⟩, f4⟩ := pair r j _ hp h0 e1
        exact ⟨h1, f1, by omega, fun _ sz es qc => e3 f2 sz es (by rw [← f4]; exact qc)⟩
      | _ => exact hc.elim
    | pn r j v' iv' p =>
      cases x with
      | pn r2 j2 ver iv p2 =>
        obtain ⟨e, rfl, hp⟩ := hc
        obtain ⟨rfl, rfl⟩ := beq e
        obtain ⟨h0, e1, e2, e3, e4, e5⟩ := hx
        obtain ⟨h1, f1, ⟨f2, f3, f5, f6⟩, f4⟩ := pair r j _ hp h0 e1
        exact ⟨h1, f1, by omega, by omega, e4, fun _ l qc => e5 (by simp [good, f2, f5]) l (by rw [← f4]; exact qc)⟩
      | _ => exact hc.elim
    | vn r j v' iv' p lo n =>
      cases x with
      | vn r2 j2 ver iv p2 lo2 n2 =>
        obtain ⟨e, rfl, rfl, rfl, hp⟩ := hc
        obtain ⟨rfl, rfl⟩ := beq e
        obtain ⟨h0, e1, e2, e3, e4, e5⟩ := hx
        obtain ⟨h1, f1, ⟨f2, f3, f5, f6⟩, f4⟩ := pair r j _ hp h0 e1
        exact ⟨h1, f1, by omega, by omega, e4, fun _ l rec o sz es qc => e5 (by simp [goodN, f2, f5]) l rec o sz es (by rw [← f4]; exact qc)⟩
      | _ => exact hc.elim
    | v y => have hc : x = _ := hc; subst hc; exact hx
    | nl => have hc : x = _ := hc; subst hc; exact hx
    | ro sz es => have hc : x = _ := hc; subst hc; exact hx
    | rp rec j => have hc : x = _ := hc; subst hc; exact hx
    | un => have hc : x = _ := hc; subst hc; trivial
    | fn f caps =>
      obtain ⟨rfl, hc⟩ := hc
      obtain ⟨ps, e, hx⟩ := hx
      refine ⟨ps, e, ?_⟩
      have key : ∀ (caps : List Cap) (ps : List Value), capsKept (get τ) caps → CapsOk G w caps ps → CapsOk G' w caps ps := by
        intro caps
        induction caps with
        | nil => intro ps _ h; exact h
        | cons c cs ih =>
          intro ps hk hx
          obtain ⟨v, vs', e, h1, h2⟩ := hx
          cases c with
          | pt r j =>
            obtain ⟨k1, k2⟩ := hk
            refine ⟨v, vs', e, ?_, ih _ k2 h2⟩
            obtain ⟨b, off, e1, e2⟩ := h1
            refine ⟨b, off, ?_, e2⟩
            split at k1
            · rename_i k e; simp only [G']; rw [if_pos ⟨k, e⟩]; exact e1
            · exact k1.elim
          | rp rec j => exact ⟨v, vs', e, h1, ih _ hk h2⟩
      exact key caps ps hc hx
  have hAs : ∀ ys xs vs, eqAsO (get σ) (get τ) ys xs → AOks (gl (get σ)) G w ys vs → AOks (gl (get τ)) G' w xs vs := by
    intro ys
    induction ys with
    | nil => intro xs vs hc hx; cases xs with
      | nil => exact hx
      | cons _ _ => exact hc.elim
    | cons y ys ih =>
      intro xs vs hc hx
      cases xs with
      | nil => exact hc.elim
      | cons x xs =>
        obtain ⟨v, vs', e, h1, h2⟩ := hx
        exact ⟨v, vs', e, hA y x v hc.1 h1, ih xs vs' hc.2 h2⟩
  have hR : ∀ y x v, eqRO (get σ) (get τ) y x → ROk (gl (get σ)) G w y v → ROk (gl (get τ)) G' w x v := by
    intro y
    induction y using R.rec (motive_2 := fun ys => ∀ xs vs, eqRsO (get σ) (get τ) ys xs → ROks (gl (get σ)) G w ys vs → ROks (gl (get τ)) G' w xs vs) with
    | one y =>
      intro x v hc hx
      cases x with
      | one x => simp only [ROk, eqRO] at *; exact hA y x v hc hx
      | agg _ => simp [eqRO] at hc
      | tup _ => simp [eqRO] at hc
    | agg ys =>
      intro x v hc hx
      cases x with
      | agg xs => simp only [ROk, eqRO] at *; obtain ⟨vs, e, hx⟩ := hx; exact ⟨vs, e, hAs ys xs vs hc hx⟩
      | one _ => simp [eqRO] at hc
      | tup _ => simp [eqRO] at hc
    | tup ys ih =>
      intro x v hc hx
      cases x with
      | tup xs => simp only [ROk, eqRO] at *; obtain ⟨vs, e, hx⟩ := hx; exact ⟨vs, e, ih xs vs hc hx⟩
      | one _ => simp [eqRO] at hc
      | agg _ => simp [eqRO] at hc
    | nil =>
      rename_i xs vs hc hx
      cases xs with
      | nil => exact hx
      | cons _ _ => simp [eqRsO] at hc
    | cons r rs ih1 ih2 =>
      rename_i xs vs hc hx
      cases xs with
      | nil => simp [eqRsO] at hc
      | cons q qs =>
        simp only [ROks, eqRsO] at *
        obtain ⟨v, vs', e, h1, h2⟩ := hx
        exact ⟨v, vs', e, ih1 q v hc.1 h1, ih2 qs vs' hc.2 h2⟩
  refine ⟨G', hS.defers, hS.tm, ?_, ?_, ?_, ?_, ?_, hS.lt, hS.frame, hS.frow, ?_, ?_, hS.afr, ?_, ?_, hS.roX⟩
  · intro d x hx
    obtain ⟨r, y, rfl, he, hc⟩ := SubO.regs h d x hx
    obtain ⟨e1, r', e2, e3⟩ := hS.reg d _ he
    cases e2
    exact ⟨e1, r, rfl, hR y r _ hc e3⟩
  · intro r k hk
    obtain ⟨b, off, cur, ty, f1, f2⟩ := hS.boxes r k (SubO.metas h r _ hk).2
    exact ⟨b, off, cur, ty, by simp only [G']; rw [if_pos ⟨k, hk⟩]; exact f1, f2⟩
  · intro r j x hx
    obtain ⟨y, h', k, box, rfl, q2, q3, q4, q5⟩ := SubO.leaves h r j x hx
    obtain ⟨h0, k0, box0, e1, e2, e3, e4⟩ := hS.leaf r j _ q2
    cases e1
    refine ⟨y, k, box, rfl, q4, q5, ?_⟩
    unfold HOk at e4 ⊢
    rw [q3.1] at e4
    exact e4
  · intro r x hx; exact (SubO.metas h r x hx).1
  · intro r b hb
    simp only [G'] at hb
    split at hb
    · rename_i e; exact e
    · cases hb
  · intro r j h0 e i hi hl
    obtain ⟨y, h', k, box, e1, q2, q3, q4, q5⟩ := SubO.leaves h r j _ (gl_some.1 e)
    cases e1
    exact hS.anc r j h' (gl_some.2 q2) i (q3.2 i hi) (by rw [q3.1]; exact hl)
  · intro r x hx
    have := keptA_mem hk r (ha r x hx)
    simp only [G']
    obtain ⟨k, hk2⟩ := this
    rw [if_pos ⟨k, hk2⟩]
    obtain ⟨g1, g2⟩ := hS.aloc r x hx
    have := (SubO.metas h r _ hk2).2
    rw [this] at g2; cases g2
    exact ⟨g1, hk2⟩
  · intro r1 r2 k1 k2 b o1 o2 hne h1 h2 q1 q2
    simp only [G'] at q1 q2
    rw [if_pos ⟨k1, h1⟩] at q1
    rw [if_pos ⟨k2, h2⟩] at q2
    exact hS.sep r1 r2 k1 k2 b o1 o2 hne (SubO.metas h r1 _ h1).2 (SubO.metas h r2 _ h2).2 q1 q2
  · intro r b off hx ha2
    simp only [G'] at hx
    split at hx
    · exact hS.newb r b off hx ha2
    · cases hx

theorem Sim.drawn {g : Gm} {a : Act} {w : World} (h : Sim cx g a w) (k : Nat) : Sim cx g a { w with drawn := k } := by
  obtain ⟨G, hS⟩ := h
  let w' : World := { w with drawn := k }
  have st : Step g G w g G w' := ⟨fun r j h hh => ⟨h, hh, .inl ⟨rfl, rfl, fun _ _ _ _ => rfl⟩⟩, fun b hb => ⟨hb, rfl⟩, fun r x h => h⟩
  refine ⟨G, hS.defers, hS.tm, ?_, hS.boxes, ?_, hS.metas, hS.noloc, hS.lt, ⟨hS.frame.os, hS.frame.tape, hS.frame.output, hS.frame.size, hS.frame.block⟩, hS.frow, hS.anc, hS.aloc, fun r b off e => (hS.afr r b off e).keep rfl, hS.sep, hS.newb, hS.roX⟩
  · intro d x hx
    obtain ⟨e1, r, e2, e3⟩ := hS.reg d x hx
    exact ⟨e1, r, e2, ROk.step hS st _ _ e3⟩
  · intro r j x hx
    obtain ⟨h, k', box, e1, e2, e3, e4⟩ := hS.leaf r j x hx
    refine ⟨h, k', box, e1, e2, e3, ?_⟩
    unfold HOk at e4 ⊢
    split at e4
    · exact ⟨RdL.keep (w' := w') _ _ _ e4.1 (fun _ _ => rfl), e4.2⟩
    · obtain ⟨S, h1, h2⟩ := e4
      exact ⟨S, RdL.keep (w' := w') _ _ _ h1 (fun _ _ => rfl), h2⟩
    · trivial

end
end Go.V

/-
  The value-level condition generator, part 27: code and functions, for evaluation; a contract out of it.
-/
namespace Go.V

section
variable (T : Tab) (O : Ops) (ct : Cts) (n : Nat) (an : List Nat)

def vwpO : Code → (Ex → VS → Prop) → VS → Prop
  | .skip, Q, σ => Q .normal σ
  | .region _ ops draw, Q, σ => vseqO T O ct n ops ops.toList σ [] fun σ' acc => match draw with
    | true => O.pr (fun _ => okOrder ops acc.reverse = true) ∧ Q .normal σ'
    | false => Q .normal σ'
  | .seq x y, Q, σ => vwpO x (fun e σ' => match e with
      | .normal => vwpO y Q σ'
      | .exit i => Q (.exit i) σ'
      | .ret => Q .ret σ') σ
  | .cond c x y, Q, σ => (evBool c .ret).wpU (get σ) [] fun _ b => caseB b (fun _ => vwpO x Q σ) (fun _ => vwpO y Q σ)
  | .block id x, Q, σ => vwpO x (fun e σ' => match e with
      | .normal => Q .normal σ'
      | .exit i => match Nat.beq i id with
        | true => Q .normal σ'
        | false => Q (.exit i) σ'
      | .ret => Q .ret σ') σ
  | .loop x, Q, σ => ∃ (regs roots : List Nat) (α : Type) (ov : α → List W) (rel : α → Prop) (μ : α → Nat), (∃ s0, rel s0 ∧ LeO an σ (keepS σ regs roots (ov s0))) ∧
      ∀ s, rel s → vwpO x (fun e σ' => match e with
        | .normal => ∃ s', rel s' ∧ μ s' < μ s ∧ LeO an σ' (keepS σ regs roots (ov s'))
        | .exit i => Q (.exit i) σ'
        | .ret => Q .ret σ') (keepS σ regs roots (ov s))
  | .exit id, Q, σ => Q (.exit id) σ
  | .ret, Q, σ => Q .ret σ
  | .scope x, Q, σ => vwpO x Q σ
  | _, _, _ => False

def finO {α : Type} (O : Ops) (ti : TI) (k : DV → List (Nat × Nat) → Rd α) (as : List A) : Rd α :=
  takeAllO O ti.slots as fun lts srcs => if ti.agg then k (.agg (lts.map (·.1))) srcs else match lts with
    | [(l, _)] => k (.one l) srcs
    | _ => .fail
def resDO {α : Type} (t : TypeId) (rv : ResultVar) (k : DV → List (Nat × Nat) → Rd α) : Rd α :=
  match lk T.tyL t with
  | none => .fail
  | some ti => match rv with
    | .tmp x => rdR x fun r => match r with
      | .one a => if ti.agg then .fail else finO O ti k [a]
      | .agg as => if ti.agg then finO O ti k as else .fail
      | .tup _ => .fail
    | .cell x t' => if t' == t then rdR x fun r => match r with
      | .one (.pt r j) => loadLeavesO O r j ti.zero.length (finO O ti k)
      | _ => .fail
      else .fail
def resDsO {α : Type} : List TypeId → List ResultVar → (List DV → List (Nat × Nat) → Rd α) → Rd α
  | [], [], k => k [] []
  | t :: ts, rv :: rvs, k => resDO T O t rv fun d src => resDsO ts rvs fun ds srcs => k (d :: ds) (src ++ srcs)
  | _, _, _ => .fail
def vretO (ts : List TypeId) (rvs : List ResultVar) (σ : VS) (res : List DV) : Prop :=
  (resDsO T O ts rvs fun ds srcs => if distinctP srcs then .req (O.pr fun _ => ds = res) (.ret ()) else .fail).wpU (get σ) [] fun _ _ => True

end

section
variable {P : Program} {T : Tab} {cx : Cx} {g : Gm}

theorem loadLeaves_mono {α : Type} {r : Nat} : ∀ {m j : Nat} {k' k : List A → Rd α} {ls : List Loc} {x : α}, (∀ as ls, (k' as).Runs g ls x → (k as).Runs g ls x) → (loadLeaves r j m k').Runs g ls x → (loadLeaves r j m k).Runs g ls x
  | 0, j, k', k, ls, x, hk, h => hk _ _ h
  | m + 1, j, k', k, ls, x, hk, h => rdH_mono (fun v ls h => loadLeaves_mono (fun as ls h => hk _ _ h) h) h
theorem resDO_ref (hT : TabOk P T) {α : Type} {t : TypeId} {rv : ResultVar} {k' k : DV → List (Nat × Nat) → Rd α} {ls : List Loc} {x : α} (hk : ∀ d s ls, (k' d s).Runs g ls x → (k d s).Runs g ls x) (h : (resDO T stdO t rv k').Runs g ls x) : (resD P t rv k).Runs g ls x := by
  revert h
  unfold resDO resD
  rcases hT.ty t with e | ⟨ti, e, e2⟩
  · simp only [e]; exact fun h => h.elim
  · simp only [e, e2]
    have hf : ∀ (as : List A) (ls : List Loc), (finO stdO ti k' as).Runs g ls x → (takeAll ti.slots as fun lts srcs => if ti.agg then k (.agg (lts.map (·.1))) srcs else match lts with
        | [(l, _)] => k (.one l) srcs
        | _ => .fail).Runs g ls x := by
      intro as ls h
      unfold finO at h
      rw [takeAll_std] at h
      refine takeAll_mono ?_ h
      intro l src ls h
      by_cases ha : ti.agg = true
      · rw [if_pos ha] at h ⊢; exact hk _ _ _ h
      · rw [if_neg ha] at h ⊢
        split at h
        · exact hk _ _ _ h
        · exact h.elim
    intro h
    cases rv with
    | tmp y =>
      refine rdR_mono ?_ h
      intro r ls h
      cases r with
      | one a =>
        simp only at h ⊢
        split at h
        · exact h.elim
        · rename_i hb; rw [if_neg hb]; exact hf _ _ h
      | agg as =>
        simp only at h ⊢
        split at h
        · rename_i hb; rw [if_pos hb]; exact hf _ _ h
        · exact h.elim
      | tup rs => exact h
    | cell y t' =>
      refine ite_mono (fun ls h => ?_) h
      refine rdR_mono ?_ h
      intro r ls h
      cases r with
      | one a => cases a with
        | pt r j =>
          simp only [loadLeaves_std] at h
          exact loadLeaves_mono (fun as ls h => hf as ls h) h
        | _ => exact h
      | agg as => exact h
      | tup rs => exact h
theorem resDsO_ref (hT : TabOk P T) {α : Type} : ∀ {ts : List TypeId} {rvs : List ResultVar} {k' k : List DV → List (Nat × Nat) → Rd α} {ls : List Loc} {x : α}, (∀ d s ls, (k' d s).Runs g ls x → (k d s).Runs g ls x) → (resDsO T stdO ts rvs k').Runs g ls x → (resDs P ts rvs k).Runs g ls x
  | [], [], k', k, ls, x, hk, h => hk _ _ _ h
  | [], _ :: _, k', k, ls, x, hk, h => h
  | _ :: _, [], k', k, ls, x, hk, h => h
  | t :: ts, rv :: rvs, k', k, ls, x, hk, h => resDO_ref hT (fun d s ls h => resDsO_ref hT (fun d s ls h => hk _ _ _ h) h) h

theorem vwpO_sound (hT : TabOk P T) {ct : Cts} (hct : CtsOk P ct) (hm : P.follows .mixedOrders = true) {n : Nat} (hn : n = cx.n) {an : List Nat} (ha : ∀ r x, cx.aloc r = some x → r ∈ an) : ∀ (c : Code) (Q : Ex → VS → Prop) (σ : VS) (a : Act) (w : World), vwpO T stdO ct n an c Q σ → Sim cx (get σ) a w →
    c.wp P (fun e a' w' => ∃ ex σ', e = exOf ex ∧ Q ex σ' ∧ Sim cx (get σ') a' w') a w
  | .skip, Q, σ, a, w, h, hS => wp_skip ⟨.normal, σ, rfl, h, hS⟩
  | .region id ops draw, Q, σ, a, w, h, hS => by
    obtain ⟨xs, σ', h1, h2⟩ := vseqO_run hT hct _ _ _ _ h
    subst hn
    cases draw with
    | false => exact wp_region_list (h1.text hS (fun a' w' hs => ⟨.normal, σ', rfl, h2, hs⟩))
    | true =>
      obtain ⟨h2, h3⟩ := h2
      refine region_draw hm h1 ?_ (fun a' w' hs => ⟨.normal, σ', rfl, h3, hs⟩) (fun a w h => h.drawn _) hS
      have h2 : okOrder ops _ = true := h2
      simpa using h2
  | .seq x y, Q, σ, a, w, h, hS => by
    refine wp_seq (Code.wp_mono ?_ (vwpO_sound hT hct hm hn ha x _ σ a w h hS))
    rintro e a' w' ⟨ex, σ', rfl, hq, hs⟩
    cases ex with
    | normal => exact vwpO_sound hT hct hm hn ha y Q σ' a' w' hq hs
    | exit i => exact ⟨.exit i, σ', rfl, hq, hs⟩
    | ret => exact ⟨.ret, σ', rfl, hq, hs⟩
  | .cond c x y, Q, σ, a, w, h, hS => by
    obtain ⟨G, hG⟩ := id hS
    obtain ⟨ls, b, t, h1, h2, _⟩ := Rd.wpU_runs h
    obtain ⟨b', ls', e, h3⟩ := evBool_sound hG h1
    refine wp_cond e ?_
    simp only [Rd.Runs] at h3
    obtain ⟨_, rfl⟩ := h3
    cases b with
    | true => exact vwpO_sound hT hct hm hn ha x Q σ a w h2 hS
    | false => exact vwpO_sound hT hct hm hn ha y Q σ a w h2 hS
  | .block id x, Q, σ, a, w, h, hS => by
    refine wp_block (Code.wp_mono ?_ (vwpO_sound hT hct hm hn ha x _ σ a w h hS))
    rintro e a' w' ⟨ex, σ', rfl, hq, hs⟩
    cases ex with
    | normal => exact ⟨.normal, σ', rfl, hq, hs⟩
    | exit i =>
      simp only [exOf, Exit.inBlock]
      simp only at hq
      split at hq
      · rename_i e; rw [if_pos (Nat.eq_of_beq_eq_true e)]; exact ⟨.normal, σ', rfl, hq, hs⟩
      · rename_i e; rw [if_neg (Nat.ne_of_beq_eq_false e)]; exact ⟨.exit i, σ', rfl, hq, hs⟩
    | ret => exact ⟨.ret, σ', rfl, hq, hs⟩
  | .loop x, Q, σ, a, w, h, hS => by
    obtain ⟨regs, roots, α, ov, rel, μ, ⟨s0, hr0, hle0⟩, hround⟩ := h
    refine wp_loop_ghost (fun s a w => rel s ∧ Sim cx (get (keepS σ regs roots (ov s))) a w) μ s0 ⟨hr0, hle0.sim ha hS⟩ ?_
    rintro s a w ⟨hr, hs⟩
    refine Code.wp_mono ?_ (vwpO_sound hT hct hm hn ha x _ _ a w (hround s hr) hs)
    rintro e a' w' ⟨ex, σ', rfl, hq, hs'⟩
    cases ex with
    | normal =>
      obtain ⟨s', k1, k2, k3⟩ := hq
      exact ⟨s', ⟨k1, k3.sim ha hs'⟩, k2⟩
    | exit i => exact ⟨.exit i, σ', rfl, hq, hs'⟩
    | ret => exact ⟨.ret, σ', rfl, hq, hs'⟩
  | .exit id, Q, σ, a, w, h, hS => wp_exit ⟨.exit id, σ, rfl, h, hS⟩
  | .ret, Q, σ, a, w, h, hS => wp_ret ⟨.ret, σ, rfl, h, hS⟩
  | .scope x, Q, σ, a, w, h, hS => by
    refine wp_scope_straight (Code.wp_mono ?_ (vwpO_sound hT hct hm hn ha x Q σ a w h hS))
    rintro e a' w' ⟨ex, σ', rfl, hq, hs⟩
    cases ex with
    | normal => exact ⟨.normal, σ', rfl, hq, hs⟩
    | exit i => exact ⟨.exit i, σ', rfl, hq, hs⟩
    | ret => exact ⟨.ret, σ', rfl, hq, hs⟩
  | .rangeFunc _ _ _ _, Q, σ, a, w, h, hS => h.elim
  | .label _, Q, σ, a, w, h, hS => h.elim
  | .goto _, Q, σ, a, w, h, hS => h.elim
  | .refuse _, Q, σ, a, w, h, hS => h.elim

/-- How a function's condition ends. -/
def finQ (T : Tab) (O : Ops) (ts : List TypeId) (rvs : List ResultVar) (res : List DV) : Ex → VS → Prop
  | .normal, σ => vretO T O ts rvs σ res
  | .ret, σ => vretO T O ts rvs σ res
  | .exit _, _ => False

theorem loop_step {α : Type} {rel : α → Prop} {μ : α → Nat} {m : Nat} {le : α → Prop} (s : α) (h1 : rel s) (h2 : μ s < m) (h3 : le s) : ∃ s, rel s ∧ μ s < m ∧ le s := ⟨s, h1, h2, h3⟩

end
end Go.V

/-
  The value-level condition generator, part 28: what the conditions ask of rows of records, and how it is met.
-/
namespace Go.V

/-- A cell of the kind of a zero cell. -/
def fitL : L → L → Bool
  | .v (.int k _), .v (.int k' _) => k == k'
  | .v (.bool _), .v (.bool _) => true
  | .v (.string _), .v (.string _) => true
  | .s sz _, .s sz' _ => sz == sz'
  | _, _ => false
def fitZ : (List L) → (List L) → Bool
  | [], [] => true
  | z :: zs, x :: xs => fitL z x && fitZ zs xs
  | _, _ => false
/-- All records of a row are of the form of a zero record. -/
def Wf (z : (List L)) (es : List (List L)) : Prop := ∀ e ∈ es, fitZ z e = true

theorem fitZ_length : ∀ {z e : (List L)}, fitZ z e = true → e.length = z.length
  | [], [], _ => rfl
  | [], _ :: _, h => by cases h
  | _ :: _, [], h => by cases h
  | z :: zs, x :: xs, h => by
    simp only [fitZ, Bool.and_eq_true] at h
    simp [fitZ_length h.2]
theorem fitZ_drop : ∀ (o : Nat) {z e : (List L)}, fitZ z e = true → fitZ (z.drop o) (e.drop o) = true
  | 0, z, e, h => h
  | o + 1, [], [], h => by simp [fitZ]
  | o + 1, [], _ :: _, h => by cases h
  | o + 1, _ :: _, [], h => by cases h
  | o + 1, z :: zs, x :: xs, h => by
    simp only [fitZ, Bool.and_eq_true] at h
    exact fitZ_drop o h.2
theorem fitZ_take : ∀ (m : Nat) {z e : (List L)}, fitZ z e = true → fitZ (z.take m) (e.take m) = true
  | 0, z, e, h => by simp [fitZ]
  | m + 1, [], [], h => by simp [fitZ]
  | m + 1, [], _ :: _, h => by cases h
  | m + 1, _ :: _, [], h => by cases h
  | m + 1, z :: zs, x :: xs, h => by
    simp only [fitZ, Bool.and_eq_true] at h
    simp only [List.take_succ_cons, fitZ, Bool.and_eq_true]
    exact ⟨h.1, fitZ_take m h.2⟩

theorem Wf.at {z : (List L)} {es : List (List L)} (h : Wf z es) {n : Nat} (hn : n < es.length) : fitZ z (es.getD n []) = true := by
  rw [List.getD_eq_getElem?_getD, List.getElem?_eq_getElem hn]
  exact h _ (List.getElem_mem hn)
theorem Wf.nil {z : (List L)} : Wf z [] := fun _ h => by cases h
theorem Wf.cons {z e : (List L)} {es : List (List L)} (h : fitZ z e = true) (hs : Wf z es) : Wf z (e :: es) := by
  intro x hx
  rcases List.mem_cons.1 hx with rfl | hx
  · exact h
  · exact hs x hx
theorem Wf.append {z : (List L)} {es fs : List (List L)} (h : Wf z es) (hs : Wf z fs) : Wf z (es ++ fs) := by
  intro x hx
  rcases List.mem_append.1 hx with hx | hx
  · exact h x hx
  · exact hs x hx
theorem Wf.take {z : (List L)} {es : List (List L)} (h : Wf z es) (n : Nat) : Wf z (es.take n) := fun x hx => h x (List.mem_of_mem_take hx)
theorem Wf.drop {z : (List L)} {es : List (List L)} (h : Wf z es) (n : Nat) : Wf z (es.drop n) := fun x hx => h x (List.mem_of_mem_drop hx)

/-- The accessors of a cell, by what it is. -/
theorem etaE_fit {es : List (List L)} {i : Int} {t : (List L)} : ∀ {z : (List L)} {j : Nat} {rest : (List L)}, fitZ z rest = true → (es.getD i.toNat []).drop j = rest ++ t → etaE stdO es i j z = rest
  | [], j, [], _, _ => rfl
  | [], _, _ :: _, h, _ => by cases h
  | _ :: _, _, [], h, _ => by cases h
  | z :: zs, j, x :: xs, h, e => by
    simp only [fitZ, Bool.and_eq_true] at h
    have hx : (es.getD i.toNat []).getD j .g = x := by
      have : (es.getD i.toNat [])[j]? = some x := by
        have := congrArg (fun l : List L => l[0]?) e
        simpa [List.getElem?_drop] using this
      rw [List.getD_eq_getElem?_getD, this]; rfl
    have hr : (es.getD i.toNat []).drop (j + 1) = xs ++ t := by
      rw [← List.drop_drop, e]; rfl
    have ih := etaE_fit h.2 hr
    cases z with
    | v z => cases z with
      | int k n => cases x with
        | v x => cases x with
          | int k' n' =>
            have : k = k' := by simpa [fitL] using h.1
            subst this
            simp only [etaE, ih]
            congr 3
            exact (show giI es i j = _ by simp only [giI, hx, lfI])
          | _ => simp [fitL] at h
        | _ => simp [fitL] at h
      | bool b => cases x with
        | v x => cases x with
          | bool b' =>
            simp only [etaE, ih]
            congr 3
            exact (show gbI es i j = _ by simp only [gbI, hx, lfB])
          | _ => simp [fitL] at h
        | _ => simp [fitL] at h
      | string b => cases x with
        | v x => cases x with
          | string b' =>
            simp only [etaE, ih]
            congr 3
            exact (show gtI es i j = _ by simp only [gtI, hx, lfT])
          | _ => simp [fitL] at h
        | _ => simp [fitL] at h
      | _ => simp [fitL] at h
    | s sz es0 => cases x with
      | s sz' es' =>
        have : sz = sz' := by simpa [fitL] using h.1
        subst this
        simp only [etaE, ih]
        congr 2
        exact (show gsI es i j = _ by simp only [gsI, hx, lfS])
      | _ => simp [fitL] at h
    | g => simp [fitL] at h
    | m _ _ => simp [fitL] at h

/-- An element of a row that is only read. -/
theorem row_ro {z : (List L)} {es : List (List L)} {i : Int} (hr : Wf z es) (h0 : 0 ≤ i) (h1 : i < es.length) : 0 ≤ i ∧ i < es.length ∧ es.getD i.toNat [] = etaE stdO es i 0 z :=
  ⟨h0, h1, (etaE_fit (t := []) (hr.at (by omega)) (by simp)).symm⟩

theorem getR_one {sz : Nat} {es : List (List L)} {n j : Nat} : getR (.s sz es) [(n, j)] = (es[n]?).map (·, j) := rfl
theorem pi_one {sz : Nat} {es : List (List L)} {n j : Nat} : piI (.s sz es) [(n, j)] = giI es n j := by
  simp only [piI, pbI, ptI, giI, gbI, gtI, getV, getR_one, Int.toNat_natCast, List.getD_eq_getElem?_getD]
  cases es[n]? with
  | none => rfl
  | some e =>
    simp only [Option.map_some, Option.getD_some]
    cases e[j]? with
    | none => rfl
    | some x => cases x with
      | v x => cases x <;> rfl
      | _ => rfl
theorem pb_one {sz : Nat} {es : List (List L)} {n j : Nat} : pbI (.s sz es) [(n, j)] = gbI es n j := by
  simp only [piI, pbI, ptI, giI, gbI, gtI, getV, getR_one, Int.toNat_natCast, List.getD_eq_getElem?_getD]
  cases es[n]? with
  | none => rfl
  | some e =>
    simp only [Option.map_some, Option.getD_some]
    cases e[j]? with
    | none => rfl
    | some x => cases x with
      | v x => cases x <;> rfl
      | _ => rfl
theorem pt_one {sz : Nat} {es : List (List L)} {n j : Nat} : ptI (.s sz es) [(n, j)] = gtI es n j := by
  simp only [piI, pbI, ptI, giI, gbI, gtI, getV, getR_one, Int.toNat_natCast, List.getD_eq_getElem?_getD]
  cases es[n]? with
  | none => rfl
  | some e =>
    simp only [Option.map_some, Option.getD_some]
    cases e[j]? with
    | none => rfl
    | some x => cases x with
      | v x => cases x <;> rfl
      | _ => rfl
theorem ps_one {sz : Nat} {es : List (List L)} {n j : Nat} : psI (.s sz es) [(n, j)] = gsI es n j := by
  simp only [psI, gsI, getS, getR_one, Int.toNat_natCast, List.getD_eq_getElem?_getD]
  cases es[n]? with
  | none => rfl
  | some e =>
    simp only [Option.map_some, Option.getD_some]
    cases e[j]? with
    | none => rfl
    | some x => cases x <;> rfl

theorem stdO_pi : stdO.pi = piI := rfl
theorem stdO_pb : stdO.pb = pbI := rfl
theorem stdO_pt : stdO.pt = ptI := rfl
theorem stdO_ps : stdO.ps = psI := rfl
theorem stdO_gi : stdO.gi = giI := rfl
theorem stdO_gb : stdO.gb = gbI := rfl
theorem stdO_gt : stdO.gt = gtI := rfl
theorem stdO_gs : stdO.gs = gsI := rfl
theorem etaP_one {sz : Nat} {es : List (List L)} {n o : Nat} : ∀ {z : (List L)} {j : Nat}, etaP stdO (.s sz es) [(n, o)] j z = etaE stdO es n (o + j) z
  | [], j => rfl
  | z :: zs, j => by
    have ih : etaP stdO (.s sz es) [(n, o)] (j + 1) zs = etaE stdO es n (o + j + 1) zs := etaP_one
    cases z with
    | v x => cases x <;> simp only [etaP, etaE, adv, stdO_pi, stdO_pb, stdO_pt, stdO_gi, stdO_gb, stdO_gt, pi_one, pb_one, pt_one, ih]
    | s a b => simp only [etaP, etaE, adv, stdO_ps, stdO_gs, ps_one, ih]
    | g => simp only [etaP, etaE, ih]
    | m _ _ => simp only [etaP, etaE, ih]

/-- The cells of an element of a row of the call's own: from the o-th on as many as z has, z0 being the element's zero. -/
theorem row_load {z z0 : (List L)} {sz : Nat} {es : List (List L)} {n o : Nat} (hr : Wf z0 es) (hn : n < es.length) (hz : (z0.drop o).take z.length = z) (ho : o + z.length ≤ z0.length) :
    ∃ rec o', getR (.s sz es) [(n, o)] = some (rec, o') ∧ o' + z.length ≤ rec.length ∧ (rec.drop o').take z.length = etaP stdO (.s sz es) [(n, o)] 0 z := by
  have hf := hr.at hn
  have e1 : es[n]? = some (es.getD n []) := by rw [List.getD_eq_getElem?_getD, List.getElem?_eq_getElem hn]; rfl
  refine ⟨es.getD n [], o, by rw [getR_one, e1]; rfl, ?_, ?_⟩
  · rw [fitZ_length hf]; exact ho
  · have hf2 : fitZ z (((es.getD n []).drop o).take z.length) = true := by
      have := fitZ_take z.length (fitZ_drop o hf)
      rw [hz] at this; exact this
    rw [etaP_one]
    symm
    exact etaE_fit (t := ((es.getD n []).drop o).drop z.length) hf2 (by rw [Nat.add_zero, Int.toNat_natCast]; exact (List.take_append_drop _ _).symm)

/-- A row of integers. -/
def rowI (xs : List Int) : List (List L) := xs.map fun x => [.v (.int .i64 x)]
theorem rowI_wf (xs : List Int) : Wf [.v (.int .i64 0)] (rowI xs) := by
  intro e he
  simp only [rowI, List.mem_map] at he
  obtain ⟨x, _, rfl⟩ := he
  rfl
theorem rowI_length (xs : List Int) : (rowI xs).length = xs.length := by simp [rowI]
theorem rowI_gi (xs : List Int) (i : Int) : giI (rowI xs) i 0 = xs.getD i.toNat 0 := by
  simp only [giI, rowI, List.getD_eq_getElem?_getD, List.getElem?_map]
  cases xs[i.toNat]? <;> rfl

end Go.V

/-
  The value-level condition generator, part 29: an argument that reads as data is a tree of data; its form.
-/
namespace Go.V

/-- A cell's form, whatever the program: of a slice the cells of an element. -/
inductive Ty where
  | int (k : IntKind)
  | bool
  | str
  | sl (fs : List Ty)

mutual
def confL : Ty → L → Prop
  | .int k, .v (.int k' n) => k' = k ∧ k.has n
  | .bool, .v (.bool _) => True
  | .str, .v (.string s) => s.size ≤ maxLen
  | .sl fs, .s sz es => sz = fs.length ∧ es.length ≤ maxLen ∧ ∀ e ∈ es, confR fs e
  | _, _ => False
def confR : List Ty → (List L) → Prop
  | [], [] => True
  | t :: ts, l :: ls => confL t l ∧ confR ts ls
  | _, _ => False
end

/-- The cells of a type, in a row; 'none' where it isn't data. -/
def shape (P : Program) : Nat → TypeId → Option (List Ty)
  | 0, _ => none
  | k + 1, t =>
    let r : Option (List Ty) := match P.underlying t with
      | some (.int kd) => some [.int kd]
      | some .bool => some [.bool]
      | some .string => some [.str]
      | some (.slice e) => match shape P k e with
        | some (f :: fs) => if P.cellsOf e = (f :: fs).length then some [.sl (f :: fs)] else none
        | _ => none
      | some (.struct fs) => (fs.toList.foldl (fun acc fd => match acc, shape P k fd.type with
          | some acc, some ts => if fd.offset = acc.length ∧ P.cellsOf fd.type = ts.length then some (acc ++ ts) else none
          | _, _ => none) (some []))
      | _ => none
    match r with
    | some ts => if P.cellsOf t = ts.length then some ts else none
    | none => none

theorem confR_length : ∀ {ts : List Ty} {r : (List L)}, confR ts r → r.length = ts.length
  | [], [], _ => rfl
  | [], _ :: _, h => by simp [confR] at h
  | _ :: _, [], h => by simp [confR] at h
  | t :: ts, l :: ls, h => by simp only [confR] at h; simp [confR_length h.2]
theorem confR_append : ∀ {ts us : List Ty} {r s : (List L)}, confR ts r → confR us s → confR (ts ++ us) (r ++ s)
  | [], us, [], s, _, h2 => h2
  | [], _, _ :: _, _, h, _ => by simp [confR] at h
  | _ :: _, _, [], _, h, _ => by simp [confR] at h
  | t :: ts, us, l :: ls, s, h, h2 => by
    simp only [confR, List.cons_append] at h ⊢
    exact ⟨h.1, confR_append h.2 h2⟩

section
variable {P : Program} {w : World}

/-- Elements one by one make a row. -/
theorem rows_of {sz : Nat} {c : (List L) → Prop} : ∀ (len : Nat) (l : List Value), l.length = len * sz → (∀ i, i < len → ∃ rec S, RdRec w rec ((l.drop (i * sz)).take sz) S ∧ c rec) →
    ∃ es S, es.length = len ∧ RdEs w sz es l S ∧ ∀ e ∈ es, c e
  | 0, l, hl, _ => ⟨[], [], rfl, by simp only [RdEs]; exact ⟨List.eq_nil_of_length_eq_zero (by simpa using hl), trivial⟩, fun e h => by cases h⟩
  | len + 1, l, hl, h => by
    obtain ⟨rec, S, h1, h2⟩ := h 0 (by omega)
    have hsz : sz ≤ l.length := by rw [hl, Nat.add_mul]; omega
    obtain ⟨es, T, k1, k2, k3⟩ := rows_of (sz := sz) (c := c) len (l.drop sz) (by rw [List.length_drop, hl, Nat.add_mul]; omega) (fun i hi => by
      obtain ⟨rec, S, h1, h2⟩ := h (i + 1) (by omega)
      refine ⟨rec, S, ?_, h2⟩
      rw [List.drop_drop]
      rw [show sz + i * sz = (i + 1) * sz from by rw [Nat.add_mul]; omega]
      exact h1)
    refine ⟨rec :: es, S ++ T, by simp [k1], ?_, ?_⟩
    · simp only [RdEs]
      refine ⟨l.take sz, l.drop sz, S, T, (List.take_append_drop _ _).symm, by simp; omega, by simpa using h1, k2, rfl⟩
    · intro e he
      rcases List.mem_cons.1 he with rfl | he
      · exact h2
      · exact k3 e he

theorem cells_at {a : Addr} {n : Nat} {cs : List Value} (h : w.cells? 0 a n = some cs) : cs.length = n ∧ ∀ k, k < n → w.cell? (a.add k) = cs[k]? := by
  unfold World.cells? at h
  rw [if_pos (Nat.zero_le _)] at h
  have hl := mapM_some_length h
  refine ⟨by simpa using hl, fun k hk => mapM_some_get h k k (by simp [hk])⟩

theorem add_add' (a : Addr) (ha : a.spot = none) (i k : Nat) : (a.add i).add k = ⟨a.block, a.off + i + k, none⟩ := by
  obtain ⟨b, o, s⟩ := a
  simp only at ha; subst ha
  unfold Addr.add
  split <;> split <;> simp_all <;> omega

theorem foldl_none {α : Type} {f : Option (List Ty) → α → Option (List Ty)} (hf : ∀ x, f none x = none) : ∀ (l : List α), l.foldl f none = none
  | [] => rfl
  | x :: l => by rw [List.foldl_cons, hf]; exact foldl_none hf l

/-- **AN ARGUMENT THAT READS AS DATA IS A TREE OF DATA.** -/
theorem read_trod {H : Type} {enc : TypeId × Value → H} : ∀ (k : Nat) (t : TypeId) (ts : List Ty), shape P k t = some ts → ∀ (fuel : Nat) (cs : List Value) (x : DataW H × List MemPlace), DataW.trod enc P w 0 (fun _ => true) true fuel t cs = some x →
    ∃ rec S, RdRec w rec cs S ∧ confR ts rec
  | 0, t, ts, hs, _, _, _, _ => by simp [shape] at hs
  | k + 1, t, ts, hs, 0, _, _, h => by simp [DataW.trod] at h
  | k + 1, t, ts, hs, fuel + 1, cs, x, h => by
    simp only [shape] at hs
    have hcell : P.cellsOf t = ts.length := by
      split at hs
      · rename_i r _
        split at hs
        · rename_i hc; cases hs; exact hc
        · cases hs
      · cases hs
    unfold DataW.trod at h
    cases hu : P.underlying t with
    | none => simp [hu] at hs
    | some d =>
      simp only [hu] at hs h
      cases d with
      | int kd =>
        have : ts = [.int kd] := by
          simp only at hs; split at hs
          · cases hs; rfl
          · cases hs
        subst this
        match cs, h with
        | [.int k' n], h =>
          simp only at h
          split at h
          · rename_i hc
            obtain ⟨rfl, hwf⟩ := hc
            simp only [Lit.wf, Bool.and_eq_true, decide_eq_true_eq] at hwf
            exact ⟨[.v (.int k' n)], [], by simp [RdRec, RdL, scal], by simp only [confR, confL]; exact ⟨⟨trivial, hwf⟩, trivial⟩⟩
          · cases h
      | bool =>
        have : ts = [.bool] := by
          simp only at hs; split at hs
          · cases hs; rfl
          · cases hs
        subst this
        match cs, h with
        | [.bool b], h => exact ⟨[.v (.bool b)], [], by simp [RdRec, RdL, scal], by simp [confR, confL]⟩
      | string =>
        have : ts = [.str] := by
          simp only at hs; split at hs
          · cases hs; rfl
          · cases hs
        subst this
        match cs, h with
        | [.string b], h =>
          simp only at h
          split at h
          · rename_i hc
            exact ⟨[.v (.string b)], [], by simp [RdRec, RdL, scal], by simp only [confR, confL]; exact ⟨hc, trivial⟩⟩
          · cases h
      | slice e =>
        simp only at hs
        cases he : shape P k e with
        | none => simp [he] at hs
        | some fs =>
          cases fs with
          | nil => simp [he] at hs
          | cons f fs =>
            simp only [he] at hs
            split at hs
            · rename_i r hr
              split at hr
              · rename_i hce
                cases hr
                split at hs
                · cases hs
                  match cs, h with
                  | [.slice none 0 0], h =>
                    refine ⟨[.s (f :: fs).length []], [], ?_, ?_⟩
                    · simp only [RdRec, RdL]
                      exact ⟨_, [], [], [], rfl, ⟨none, 0, 0, rfl, rfl, Nat.le_refl _, Nat.zero_le _, .inl ⟨rfl, rfl⟩⟩, ⟨rfl, rfl⟩, rfl⟩
                    · simp only [confR, confL]
                      exact ⟨⟨trivial, Nat.zero_le _, fun e h => by cases h⟩, trivial⟩
                  | [.slice (some a) len cap], h =>
                    simp only at h
                    split at h
                    · rename_i hb
                      obtain ⟨_, hlc, hcm⟩ := hb
                      simp only [if_true, Option.map_eq_some_iff, Option.bind_eq_some_iff] at h
                      obtain ⟨elems, hel, rest, hrest, _⟩ := h
                      have hsz : P.cellsOf e = (f :: fs).length := hce
                      have hszp : 0 < P.cellsOf e := by rw [hsz]; simp
                      have hat : ∀ i, i < cap → ∃ ci y, w.cells? 0 (a.add (i * P.cellsOf e)) (P.cellsOf e) = some ci ∧ DataW.trod enc P w 0 (fun _ => true) true fuel e ci = some y := by
                        intro i hi
                        rcases Nat.lt_or_ge i len with c | c
                        · have := mapM_some_get hel i i (List.getElem?_range c)
                          have hl := mapM_some_length hel
                          simp only [List.length_range] at hl
                          rw [List.getElem?_eq_getElem (by omega)] at this
                          simp only [Option.bind_eq_some_iff] at this
                          obtain ⟨ci, h1, h2⟩ := this
                          exact ⟨ci, _, h1, h2⟩
                        · have := mapM_some_get hrest (i - len) (i - len) (List.getElem?_range (by omega))
                          have hl := mapM_some_length hrest
                          simp only [List.length_range] at hl
                          rw [List.getElem?_eq_getElem (by omega)] at this
                          simp only [Option.bind_eq_some_iff] at this
                          obtain ⟨ci, h1, h2⟩ := this
                          rw [show len + (i - len) = i from by omega] at h1
                          exact ⟨ci, _, h1, h2⟩
                      by_cases hc0 : cap = 0
                      · subst hc0
                        have : len = 0 := by omega
                        subst this
                        refine ⟨[.s (f :: fs).length []], [], ?_, ?_⟩
                        · simp only [RdRec, RdL]
                          exact ⟨_, [], [], [], rfl, ⟨some a, 0, 0, rfl, rfl, Nat.le_refl _, Nat.zero_le _, .inl ⟨rfl, rfl⟩⟩, ⟨rfl, rfl⟩, rfl⟩
                        · simp only [confR, confL]
                          exact ⟨⟨trivial, Nat.zero_le _, fun e h => by cases h⟩, trivial⟩
                      · -- the block
                        obtain ⟨c0, y0, z1, z2⟩ := hat 0 (by omega)
                        have z3 := (cells_at z1).2 0 hszp
                        have hz4 : ∃ v, w.cell? a = some v := by
                          rw [Nat.zero_mul] at z3
                          have : (a.add 0).add 0 = a := rfl
                          rw [this] at z3
                          rw [z3]
                          have := (cells_at z1).1
                          exact ⟨_, List.getElem?_eq_getElem (by omega)⟩
                        obtain ⟨v0, hv0⟩ := hz4
                        have hblk : ∃ cur ty fz, w.heap[a.block]? = some (.cells cur ty fz) ∧ a.spot = none := by
                          unfold World.cell? at hv0
                          split at hv0
                          · rename_i cur ty fz hh
                            refine ⟨cur, ty, fz, hh, ?_⟩
                            cases hsp : a.spot with
                            | none => rfl
                            | some s => simp [hsp] at hv0
                          · cases hv0
                        obtain ⟨cur, ty, fz, hh, hsp⟩ := hblk
                        have hcellat : ∀ j, w.cell? ⟨a.block, j, none⟩ = cur[j]? := by
                          intro j; unfold World.cell?; simp [hh]
                        have hel2 : ∀ i, i < cap → ∃ ci y, ci.length = P.cellsOf e ∧ (∀ kk, kk < P.cellsOf e → cur[a.off + i * P.cellsOf e + kk]? = ci[kk]?) ∧ DataW.trod enc P w 0 (fun _ => true) true fuel e ci = some y := by
                          intro i hi
                          obtain ⟨ci, y, h1, h2⟩ := hat i hi
                          obtain ⟨h3, h4⟩ := cells_at h1
                          refine ⟨ci, y, h3, fun kk hkk => ?_, h2⟩
                          rw [← h4 kk hkk, add_add' a hsp, hcellat]
                        have hfit : a.off + cap * P.cellsOf e ≤ cur.size := by
                          obtain ⟨ci, y, h1, h2, _⟩ := hel2 (cap - 1) (by omega)
                          have := h2 (P.cellsOf e - 1) (by omega)
                          rw [List.getElem?_eq_getElem (by omega)] at this
                          have hlt := (Array.getElem?_eq_some_iff.1 this).1
                          have : cap * P.cellsOf e = (cap - 1) * P.cellsOf e + P.cellsOf e := by
                            rw [← Nat.succ_mul]; congr 1; omega
                          omega
                        have hle : len * P.cellsOf e ≤ cap * P.cellsOf e := Nat.mul_le_mul_right _ hlc
                        obtain ⟨es, S, k1, k2, k3⟩ := rows_of (w := w) (sz := P.cellsOf e) (c := confR (f :: fs)) len ((cur.toList.drop a.off).take (len * P.cellsOf e)) (by simp only [List.length_take, List.length_drop, Array.length_toList]; omega) (fun i hi => by
                          obtain ⟨ci, y, h1, h2, h3⟩ := hel2 i (by omega)
                          obtain ⟨rec, S, r1, r2⟩ := read_trod k e (f :: fs) he fuel ci y h3
                          refine ⟨rec, S, ?_, r2⟩
                          have : (((cur.toList.drop a.off).take (len * P.cellsOf e)).drop (i * P.cellsOf e)).take (P.cellsOf e) = ci := by
                            apply List.ext_getElem?
                            intro kk
                            have hii : (i + 1) * P.cellsOf e ≤ len * P.cellsOf e := Nat.mul_le_mul_right _ hi
                            rw [Nat.succ_mul] at hii
                            simp only [List.getElem?_take, List.getElem?_drop]
                            by_cases ck : kk < P.cellsOf e
                            · rw [if_pos ck, if_pos (by omega), ← h2 kk ck, Array.getElem?_toList]; congr 1; omega
                            · rw [if_neg ck, List.getElem?_eq_none (by omega)]
                          rw [this]; exact r1)
                        refine ⟨[.s (f :: fs).length es], a.block :: S, ?_, ?_⟩
                        · simp only [RdRec, RdL]
                          refine ⟨_, [], a.block :: S, [], rfl, ⟨some a, len, cap, rfl, k1.symm, hlc, hcm, .inr ⟨a.block, a.off, cur, ty, fz, S, ?_, hh, by rw [← hsz]; exact hfit, by rw [← hsz]; exact k2, rfl⟩⟩, ⟨rfl, rfl⟩, by simp⟩
                          obtain ⟨b, o, s⟩ := a; simp only at hsp; subst hsp; rfl
                        · simp only [confR, confL]
                          exact ⟨⟨trivial, by omega, k3⟩, trivial⟩
                    · cases h
                · cases hs
              · cases hr
            · cases hs
      | struct fs =>
        simp only at hs
        generalize hfold : (fs.toList.foldl (fun acc fd => match acc, shape P k fd.type with
          | some acc, some ts => if fd.offset = acc.length ∧ P.cellsOf fd.type = ts.length then some (acc ++ ts) else none
          | _, _ => none) (some [])) = r at hs
        cases r with
        | none => cases hs
        | some ts0 =>
          simp only at hs
          by_cases hc0 : P.cellsOf t = ts0.length
          case neg => rw [if_neg hc0] at hs; cases hs
          rw [if_pos hc0] at hs
          cases hs
          simp only at h
          split at h
          · rename_i hcl
            simp only [Option.map_eq_some_iff] at h
            obtain ⟨xs, hxs, _⟩ := h
            have key : ∀ (l : List Field) (acc : List Ty) (xs : List (DataW H × List MemPlace)), l.foldl (fun acc fd => match acc, shape P k fd.type with
                | some acc, some ts => if fd.offset = acc.length ∧ P.cellsOf fd.type = ts.length then some (acc ++ ts) else none
                | _, _ => none) (some acc) = some ts → l.mapM (fun f => DataW.trod enc P w 0 (fun _ => true) true fuel f.type ((cs.drop f.offset).take (P.cellsOf f.type))) = some xs →
                ∃ tl, ts = acc ++ tl ∧ ∃ rec S, RdRec w rec ((cs.drop acc.length).take tl.length) S ∧ confR tl rec := by
              intro l
              induction l with
              | nil => intro acc xs h _; simp only [List.foldl_nil, Option.some.injEq] at h; exact ⟨[], by simp [h], [], [], by simp [RdRec], by simp [confR]⟩
              | cons fd l ih =>
                intro acc xs h hm
                rw [List.foldl_cons] at h
                cases hsf : shape P k fd.type with
                | none => simp only [hsf] at h; rw [foldl_none (fun _ => rfl)] at h; cases h
                | some us =>
                  simp only [hsf] at h
                  by_cases hc : fd.offset = acc.length ∧ P.cellsOf fd.type = us.length
                  · rw [if_pos hc] at h
                    simp only [List.mapM_cons, Option.bind_eq_bind, Option.bind_eq_some_iff] at hm
                    obtain ⟨y, hy, ys, hys, _⟩ := hm
                    obtain ⟨tl, e1, rec, S, r1, r2⟩ := ih (acc ++ us) ys h hys
                    obtain ⟨rec0, S0, q1, q2⟩ := read_trod k fd.type us hsf fuel _ y hy
                    refine ⟨us ++ tl, by rw [e1, List.append_assoc], rec0 ++ rec, S0 ++ S, ?_, confR_append q2 r2⟩
                    have e2 : (cs.drop acc.length).take (us ++ tl).length = (cs.drop fd.offset).take (P.cellsOf fd.type) ++ (cs.drop (acc ++ us).length).take tl.length := by
                      rw [hc.1, hc.2, List.length_append, List.length_append, List.take_add, List.drop_drop]
                    rw [e2]
                    exact q1.append r1
                  · rw [if_neg hc] at h; rw [foldl_none (fun _ => rfl)] at h; cases h
            obtain ⟨tl, e1, rec, S, r1, r2⟩ := key fs.toList [] xs hfold hxs
            simp only [List.nil_append] at e1
            subst e1
            refine ⟨rec, S, ?_, r2⟩
            rw [hcell] at hcl
            simpa [← hcl] using r1
          · cases h
      | _ => simp at hs

end
end Go.V

/-
  The value-level condition generator, part 30: a law's row out of its function's contract.
-/
namespace Go.V
open Go.ChangeShapes Go.WideShapes Go.ChangeAt Go.RowKit

/-- An argument as a tree of data. -/
def argDV : Bool → (List L) → DV
  | true, rec => .agg rec
  | false, [l] => .one l
  | false, rec => .agg rec
def argDVs : List (Bool × List Ty) → List (List L) → List DV
  | (b, _) :: sh, r :: rs => argDV b r :: argDVs sh rs
  | _, _ => []
def confs : List (Bool × List Ty) → List (List L) → Prop
  | [], [] => True
  | (_, ts) :: sh, r :: rs => confR ts r ∧ confs sh rs
  | _, _ => False
def isStruct (P : Program) (t : TypeId) : Bool := match P.underlying t with
  | some (.struct _) => true
  | _ => false
def shapeA (P : Program) (t : TypeId) : Option (Bool × List Ty) := (shape P 12 t).map (isStruct P t, ·)

section
variable {P : Program} {w : World} {H : Type} {enc : TypeId × Value → H}

theorem read_arg {t : TypeId} {b : Bool} {ts : List Ty} (hs : shapeA P t = some (b, ts)) {base : Nat} {v : Value} (hok : Value.okWide P w .any base t v) {d : DataW H} {ps : List MemPlace}
    (h : DataW.Trod enc P w 0 (fun _ => true) true t v d ps) : ∃ rec S, confR ts rec ∧ RdDV w (argDV b rec) v S := by
  unfold shapeA at hs
  cases hsh : shape P 12 t with
  | none => simp [hsh] at hs
  | some ts' =>
    simp only [hsh, Option.map_some, Option.some.injEq, Prod.mk.injEq] at hs
    obtain ⟨hb, rfl⟩ := hs
    obtain ⟨fuel, h⟩ := h
    obtain ⟨rec, S, h1, h2⟩ := read_trod _ _ _ hsh _ _ _ h
    refine ⟨rec, S, h2, ?_⟩
    unfold isStruct at hb
    cases hu : P.underlying t with
    | none => simp [shape, hu] at hsh
    | some ud =>
      have hcell : ∀ (hv : v.cells = #[v]) (hbf : b = false), ∃ l, rec = [l] ∧ RdDV w (argDV b rec) v S := by
        intro hv hbf
        rw [hv] at h1
        have hl := h1.length
        simp only [List.length_cons, List.length_nil] at hl
        obtain ⟨l, rfl⟩ := List.length_eq_one_iff.1 hl.symm
        refine ⟨l, rfl, ?_⟩
        simp only [RdRec] at h1
        obtain ⟨v', vs', S1, S2, e, q1, ⟨rfl, rfl⟩, rfl⟩ := h1
        simp at e
        obtain ⟨rfl, _⟩ := e
        rw [hbf]
        simpa [argDV, RdDV] using q1
      cases ud with
      | struct fs =>
        simp only [hu] at hb
        subst hb
        simp only [Value.okWide, hu] at hok
        obtain ⟨cs, rfl, _, _⟩ := hok
        exact ⟨cs.toList, by simp, h1⟩
      | int k =>
        simp only [Value.okWide, hu, Cell.okWide, Cell.ok] at hok
        split at hok <;> first | exact hok.elim | skip
        all_goals first | (obtain ⟨l, rfl, h3⟩ := hcell rfl (by simpa [hu] using hb.symm); exact h3) | (rename_i hx _; cases hx)
      | bool =>
        simp only [Value.okWide, hu, Cell.okWide, Cell.ok] at hok
        split at hok <;> first | exact hok.elim | skip
        all_goals first | (obtain ⟨l, rfl, h3⟩ := hcell rfl (by simpa [hu] using hb.symm); exact h3) | (rename_i hx _; cases hx)
      | string =>
        simp only [Value.okWide, hu, Cell.okWide, Cell.ok] at hok
        split at hok <;> first | exact hok.elim | skip
        all_goals first | (obtain ⟨l, rfl, h3⟩ := hcell rfl (by simpa [hu] using hb.symm); exact h3) | (rename_i hx _; cases hx)
      | slice e =>
        simp only [Value.okWide, hu, Cell.okWide, Cell.ok] at hok
        split at hok <;> first | exact hok.elim | skip
        all_goals first | (obtain ⟨l, rfl, h3⟩ := hcell rfl (by simpa [hu] using hb.symm); exact h3) | (rename_i hx _; cases hx)
      | _ => simp [shape, hu] at hsh

theorem RdDV.arg {d : DV} {v : Value} {S : List Nat} (h : RdDV w d v S) : RdArg w d v S := by
  cases d with
  | one l => exact h
  | agg l => exact h
  | _ => exact h.elim
theorem read_args : ∀ (ts : List TypeId) (sh : List (Bool × List Ty)) (vs : List Value) (ds : List (DataW H)) (ps : List MemPlace) (base : Nat), (ts.map (shapeA P)) = sh.map some →
    (∀ (j : Nat) t v, ts[j]? = some t → vs[j]? = some v → Value.okWide P w .any base t v) → DataW.TrodAll enc P w 0 (fun _ => true) true ts vs ds ps →
    ∃ recs, confs sh recs ∧ RdArgs (fun _ => True) w (argDVs sh recs) vs
  | [], [], vs, ds, ps, base, _, _, h => by
    obtain ⟨rfl, rfl, rfl⟩ := trodAll_nil h
    exact ⟨[], trivial, rfl⟩
  | [], _ :: _, _, _, _, _, h, _, _ => by simp at h
  | _ :: _, [], _, _, _, _, h, _, _ => by simp at h
  | t :: ts, (b, us) :: sh, vs, ds, ps, base, hsh, hok, h => by
    simp only [List.map_cons, List.cons.injEq] at hsh
    obtain ⟨v, vs', d, ds', p, q, rfl, rfl, rfl, h1, h2⟩ := trodAll_cons h
    obtain ⟨rec, S, r1, r2⟩ := read_arg hsh.1 (hok 0 t v rfl rfl) h1
    obtain ⟨recs, k1, k2⟩ := read_args ts sh vs' ds' q base hsh.2 (fun j t' v' e1 e2 => hok (j + 1) t' v' (by simpa using e1) (by simpa using e2)) h2
    exact ⟨rec :: recs, ⟨r1, k1⟩, v, vs', S, rfl, r2.arg, fun _ _ => trivial, k2⟩

theorem Same.below {w w' : World} (h : Same (fun _ => True) w w') : Below w.heap.size w w' := ⟨h.os, h.tape, h.output, h.size, fun k hk => h.block k hk trivial⟩
theorem Same.keptBut {w w' : World} (h : Same (fun _ => True) w w') (may : MemPlace → Prop) : w.keptBut w' may := by
  refine ⟨h.os, h.output, fun i hi => ?_⟩
  rw [h.block i hi trivial]
  cases w.heap[i]? with
  | none => rfl
  | some o => cases o with
    | cells c t fr => exact ⟨rfl, rfl, rfl, fun _ _ => rfl⟩
    | map es clock => exact .inr ⟨rfl, rfl⟩
    | _ => rfl

theorem trodAll_stays {w' : World} (hl : laidOutB P = true) (hb : Below w.heap.size w w') : ∀ (ts : List TypeId) (vs : List Value) (ds : List (DataW H)) (ps : List MemPlace), (ts.all fun t => P.readableRec t && decide (t < P.types.size)) = true →
    DataW.TrodAll enc P w 0 (fun _ => true) true ts vs ds ps → (∀ x ∈ ps, x.block < w.heap.size) → DataW.TrodAll enc P w' 0 (fun b => decide (b < w.heap.size)) true ts vs ds ps
  | [], vs, ds, ps, _, h, _ => by
    obtain ⟨rfl, rfl, rfl⟩ := trodAll_nil h
    exact trodAll_mk0
  | t :: ts, vs, ds, ps, hr, h, hlt => by
    obtain ⟨v, vs', d, ds', p, q, rfl, rfl, rfl, h1, h2⟩ := trodAll_cons h
    simp only [List.all_cons, Bool.and_eq_true, decide_eq_true_eq] at hr
    exact ⟨p, q, Below.trod hl hr.1.1 hr.1.2 h1 hb (fun x hx => hlt x (by simp [hx])), trodAll_stays hl hb ts vs' ds' q (by simpa using hr.2) h2 (fun x hx => hlt x (by simp [hx])), rfl⟩

/-- **A LAW's CALL, OUT OF THE CONTRACT.** -/
theorem law_calls {f : FuncId} {fn : Func} {s : ChangeSpec} {sh : List (Bool × List Ty)} {tb : TypeId} (hvars : s.vars = []) (hspec : ∀ ds : List (DataW H), ds.length = fn.params.toList.length → s.fn H (ds ++ []) = ⟨[.lit (.bool true)], ds, []⟩)
    (hrt : fn.resultTypes = #[tb]) (htb : P.underlying tb = some .bool) (hl : laidOutB P = true) (hread : (fn.params.toList.all fun t => P.readableRec t && decide (t < P.types.size)) = true)
    (hsh : fn.params.toList.map (shapeA P) = sh.map some) (hctr : ∀ recs, confs sh recs → Ctr P f (argDVs sh recs) [.one (.v (.bool true))])
    {base : Nat} {args : Array Value} {ds gs : List (DataW H)} {before : List MemPlace} (hval : ∀ (j : Nat) t v, fn.params[j]? = some t → args[j]? = some v → Value.okWide P w .any base t v)
    (hW : DataW.Whole enc P fn.params.toList s.vars false w args.toList ds gs before) :
    Calls P f args w fun e w' => ∃ v, e = .returned v ∧ s.post enc P fn false true false false w args v w' := by
  have hW' := hW
  obtain ⟨p, q, hA, hV, rfl, hfz, hnd⟩ := hW
  rw [hvars] at hV
  obtain ⟨rfl, rfl⟩ := trodVars_none hV
  obtain ⟨recs, h1, h2⟩ := read_args fn.params.toList sh args.toList ds p base hsh (fun j t v e1 e2 => hval j t v (by simpa using e1) (by simpa using e2)) hA
  have hc := hctr recs h1 w args.toList h2
  rw [Array.toArray_toList] at hc
  refine hc.mono ?_
  rintro e w' ⟨v, S, rfl, hr, _, _, hsame⟩
  simp only [RdRes, RdDV, RdL] at hr
  obtain ⟨rfl, _, _⟩ := hr
  have hlen : ∀ (ts : List TypeId) (vs : List Value) (ds : List (DataW H)) (ps : List MemPlace), DataW.TrodAll enc P w 0 (fun _ => true) true ts vs ds ps → ds.length = ts.length := by
    intro ts
    induction ts with
    | nil => intro vs ds ps h; obtain ⟨_, rfl, _⟩ := trodAll_nil h; rfl
    | cons t ts ih => intro vs ds ps h; obtain ⟨v, vs', d, ds', p, q, rfl, rfl, rfl, _, h2⟩ := trodAll_cons h; simp [ih _ _ _ h2]
  have e1 : s.fn H (ds ++ []) = ⟨[.lit (.bool true)], ds, []⟩ := hspec ds (hlen _ _ _ _ hA)
  refine ⟨_, rfl, ds, [], p ++ [], [], p, [], hW', ?_, ?_, ?_, hsame.keptBut _, fun h => by cases h⟩
  · rw [e1, hrt]
    exact trodAll_mk1 (shut_bool htb true)
  · rw [e1]
    exact trodAll_stays hl hsame.below _ _ _ _ hread hA (fun x hx => hW'.lt x (by simpa using hx))
  · rw [e1, hvars]; rfl

end
end Go.V

/-
  The value-level condition generator, part 31: rows that are filled, folded and compared.
-/
namespace Go.V

theorem add64 {a b : Int} (h : -9223372036854775808 ≤ a + b ∧ a + b ≤ 9223372036854775807) : arI .add .i64 a b = a + b := IntWalk.i64_in _ h
theorem sub64 {a b : Int} (h : -9223372036854775808 ≤ a - b ∧ a - b ≤ 9223372036854775807) : arI .sub .i64 a b = a - b := IntWalk.i64_in _ h
theorem inc64 {i : Int} {n : Nat} (h0 : 0 ≤ i) (h1 : i < n) (hn : n ≤ 4611686018427387904) : arI .add .i64 i 1 = i + 1 := add64 (by omega)

theorem getD_take_succ {α : Type} {es : List α} {d : α} {i : Nat} (hi : i < es.length) : es.take (i + 1) = es.take i ++ [es.getD i d] := by
  rw [List.take_succ_eq_append_getElem hi, List.getD_eq_getElem?_getD, List.getElem?_eq_getElem hi]; rfl

theorem foldl_take_succ {α β : Type} {f : β → α → β} {a : β} {es : List α} {d : α} {i : Nat} (hi : i < es.length) : (es.take (i + 1)).foldl f a = f ((es.take i).foldl f a) (es.getD i d) := by
  rw [getD_take_succ (d := d) hi, List.foldl_append]; rfl

/-- A row of zeros, filled up to the i-th. -/
def fillR (es : List (List L)) (z : (List L)) (i : Nat) : List (List L) := es.take i ++ List.replicate (es.length - i) z
theorem fillR_zero {es : List (List L)} {z : (List L)} : fillR es z 0 = List.replicate es.length z := by simp [fillR]
theorem fillR_all {es : List (List L)} {z : (List L)} : fillR es z es.length = es := by simp [fillR]
theorem fillR_length {es : List (List L)} {z : (List L)} {i : Nat} (hi : i ≤ es.length) : (fillR es z i).length = es.length := by simp [fillR]; omega
theorem fillR_set {es : List (List L)} {z : (List L)} {i : Nat} (hi : i < es.length) : (fillR es z i).set i (es.getD i []) = fillR es z (i + 1) := by
  unfold fillR
  rw [getD_take_succ (d := []) hi, List.set_append_right _ _ (by simp; omega)]
  have : (es.take i).length = i := by simp; omega
  rw [this, Nat.sub_self]
  rw [show es.length - i = (es.length - (i + 1)) + 1 from by omega, List.replicate_succ, List.set_cons_zero]
  simp
theorem fillR_getD {es : List (List L)} {z : (List L)} {i : Nat} (hi : i < es.length) : (fillR es z i).getD i [] = z := by
  unfold fillR
  have : (es.take i).length = i := by simp; omega
  rw [List.getD_eq_getElem?_getD, List.getElem?_append_right (by omega), this, Nat.sub_self, List.getElem?_replicate]
  rw [if_pos (by omega)]; rfl

/-- A whole element written. -/
theorem upI_one {sz : Nat} {es : List (List L)} {n : Nat} {new : (List L)} (h : (es.getD n []).length = new.length) : upI (.s sz es) [(n, 0)] new = es.set n new := by
  simp only [upI, setR, rowOf, List.take_zero, List.nil_append, Nat.zero_add]
  rw [List.drop_of_length_le (by omega), List.append_nil]

theorem getR_some {sz : Nat} {es : List (List L)} {n o m : Nat} (hn : n < es.length) (hl : o + m ≤ (es.getD n []).length) : ∃ rec o', getR (.s sz es) [(n, o)] = some (rec, o') ∧ o' + m ≤ rec.length := by
  refine ⟨es.getD n [], o, ?_, hl⟩
  rw [getR_one, List.getD_eq_getElem?_getD, List.getElem?_eq_getElem hn]; rfl

theorem etaE_whole {z : (List L)} {es : List (List L)} {i : Int} (hr : Wf z es) (h0 : 0 ≤ i) (h1 : i < es.length) : etaE stdO es i 0 z = es.getD i.toNat [] := (row_ro hr h0 h1).2.2.symm

theorem c_eql_t {a b : Int} : (cmpI .eql a b = true) ↔ a = b := by simp [cmpI]
theorem c_eql_f {a b : Int} : (cmpI .eql a b = false) ↔ a ≠ b := by simp [cmpI]
theorem c_neq_t {a b : Int} : (cmpI .neq a b = true) ↔ a ≠ b := by simp [cmpI]
theorem c_neq_f {a b : Int} : (cmpI .neq a b = false) ↔ a = b := by simp [cmpI]
theorem c_lss_t {a b : Int} : (cmpI .lss a b = true) ↔ a < b := by simp [cmpI]
theorem c_lss_f {a b : Int} : (cmpI .lss a b = false) ↔ b ≤ a := by simp [cmpI]
theorem c_leq_t {a b : Int} : (cmpI .leq a b = true) ↔ a ≤ b := by simp [cmpI]
theorem c_leq_f {a b : Int} : (cmpI .leq a b = false) ↔ b < a := by simp [cmpI]
theorem c_gtr_t {a b : Int} : (cmpI .gtr a b = true) ↔ b < a := by simp [cmpI]
theorem c_gtr_f {a b : Int} : (cmpI .gtr a b = false) ↔ a ≤ b := by simp [cmpI]
theorem c_geq_t {a b : Int} : (cmpI .geq a b = true) ↔ b ≤ a := by simp [cmpI]
theorem c_geq_f {a b : Int} : (cmpI .geq a b = false) ↔ a < b := by simp [cmpI]
theorem bn_t {b : Bool} : (bnI b = true) ↔ b = false := by cases b <;> simp [bnI]
theorem bn_f {b : Bool} : (bnI b = false) ↔ b = true := by cases b <;> simp [bnI]
theorem sel_t {a b : Bool} : selI true a b = a := rfl
theorem sel_f {a b : Bool} : selI false a b = b := rfl
theorem bq_eql_t {a b : Bool} : (bqI .eql a b = true) ↔ a = b := by simp [bqI]
theorem bq_eql_f {a b : Bool} : (bqI .eql a b = false) ↔ a ≠ b := by simp [bqI]
theorem bq_neq_t {a b : Bool} : (bqI .neq a b = true) ↔ a ≠ b := by simp [bqI]
theorem bq_neq_f {a b : Bool} : (bqI .neq a b = false) ↔ a = b := by simp [bqI]
theorem zi_eq {n : Nat} : ziI n = (n : Int) := rfl
theorem ln_eq {es : List (List L)} : lnI es = es.length := rfl
theorem pr_eq {f : Unit → Prop} : prI f = f () := rfl
theorem ad_zero {i : Int} : adI 0 i = i.toNat := Nat.zero_add _

theorem mk_ok {n b : Nat} (h : n * b ≤ 70368744177664) (hn : n ≤ 70368744177664) : 0 ≤ ziI n ∧ ziI n ≤ ziI n ∧ ziI n * (b : Int) ≤ 70368744177664 ∧ ziI n ≤ 70368744177664 := by
  unfold ziI
  refine ⟨by omega, by omega, ?_, by omega⟩
  rw [← Int.natCast_mul]; omega

/-- Evaluation leaves a cast in another form. -/
theorem ncast {n : Nat} : (NatCast.natCast n : Int) = Int.ofNat n := rfl
theorem sub_all {es : List (List L)} : subI es 0 es.length = es := by simp [subI]
theorem sub_ln {es : List (List L)} : subI es 0 (lnI es) = es := sub_all

end Go.V

/-
  The value-level condition generator, part 35: the contract of a function that writes into its arguments.
-/
namespace Go.V

def lvHv : Nat → (List L) → List Hv
  | _, [] => []
  | i, l :: ls => match l with
    | .s sz es => ⟨0, 0, some i, .own (.s sz es)⟩ :: lvHv (i + 1) ls
    | .v x => ⟨0, 0, none, .own (.v x)⟩ :: lvHv i ls
    | .g => ⟨0, 0, none, .own .g⟩ :: lvHv i ls
    | .m kb es => ⟨0, 0, none, .own (.m kb es)⟩ :: lvHv i ls
def initWs (O : Ops) : Nat → Nat → List DV → List W
  | _, _, [] => []
  | p, i, d :: ds => .root p false (lvHv i (dvLeaves d)) :: .reg p (resRO O p 0 d) :: initWs O (p + 1) (i + (slL (dvLeaves d)).length) ds
def initM (O : Ops) (ds : List DV) : VS := push [] (initWs O 0 0 ds)

def outsR {α : Type} (pr : (Unit → Prop) → Prop) (os : Nat → L) : List (Nat × Nat) → Nat → Rd α → Rd α
  | [], _, k => k
  | (r, j) :: ps, i, k => rdH r j fun h => match h.org with
    | some i' => if Nat.beq i' i then match h.c with
      | .own (.s sz es) => .req (pr fun _ => L.s sz es = os i) (outsR pr os ps (i + 1) k)
      | _ => .fail
      else .fail
    | none => .fail
def vretM (T : Tab) (O : Ops) (ts : List TypeId) (rvs : List ResultVar) (locs : List (Nat × Nat)) (σ : VS) (res : List DV) (outs : Nat → L) : Prop :=
  (resDsO T O ts rvs fun ds srcs => if distinctP (srcs ++ locs) then .req (O.pr fun _ => ds = res) (outsR O.pr outs locs 0 (.ret ())) else .fail).wpU (get σ) [] fun _ _ => True
def finM (T : Tab) (O : Ops) (ts : List TypeId) (rvs : List ResultVar) (locs : List (Nat × Nat)) (res : List DV) (outs : Nat → L) : Ex → VS → Prop
  | .normal, σ => vretM T O ts rvs locs σ res outs
  | .ret, σ => vretM T O ts rvs locs σ res outs
  | .exit _, _ => False

section
variable {P : Program} {cx : Cx} {G : Gh} {g : Gm} {a : Act} {w : World}

theorem lvHv_at : ∀ {ls : (List L)} {vs : List Value} {i : Nat}, vs.length = ls.length → (∀ k v, (slV ls vs)[k]? = some v → cx.anc (i + k) = v) → ∀ (j : Nat) (h : Hv), (lvHv i ls)[j]? = some h →
    ∃ l v og, ls[j]? = some l ∧ vs[j]? = some v ∧ h = ⟨0, 0, og, .own l⟩ ∧ OrgOk cx h.c h.org v
  | [], vs, i, _, _, j, h, e => by simp [lvHv] at e
  | l :: ls, [], i, hl, _, j, h, e => by simp at hl
  | l :: ls, v :: vs, i, hl, ha, j, h, e => by
    cases l with
    | s sz es =>
      simp only [lvHv] at e
      cases j with
      | zero =>
        simp at e; subst e
        refine ⟨_, v, some i, rfl, rfl, rfl, fun k hk _ => ?_⟩
        cases hk
        exact (ha 0 v (by simp [slV])).symm
      | succ j =>
        obtain ⟨l, v', og, e1, e2, e3, e4⟩ := lvHv_at (ls := ls) (vs := vs) (i := i + 1) (by simpa using hl) (fun k v hk => by rw [show i + 1 + k = i + (k + 1) from by omega]; exact ha (k + 1) v (by simpa [slV] using hk)) j h (by simpa using e)
        exact ⟨l, v', og, by simpa using e1, by simpa using e2, e3, e4⟩
    | v x =>
      simp only [lvHv] at e
      cases j with
      | zero => simp at e; subst e; exact ⟨_, v, none, rfl, rfl, rfl, OrgOk.none⟩
      | succ j =>
        obtain ⟨l, v', og, e1, e2, e3, e4⟩ := lvHv_at (ls := ls) (vs := vs) (i := i) (by simpa using hl) (fun k v hk => ha k v (by simpa [slV] using hk)) j h (by simpa using e)
        exact ⟨l, v', og, by simpa using e1, by simpa using e2, e3, e4⟩
    | g =>
      simp only [lvHv] at e
      cases j with
      | zero => simp at e; subst e; exact ⟨_, v, none, rfl, rfl, rfl, OrgOk.none⟩
      | succ j =>
        obtain ⟨l, v', og, e1, e2, e3, e4⟩ := lvHv_at (ls := ls) (vs := vs) (i := i) (by simpa using hl) (fun k v hk => ha k v (by simpa [slV] using hk)) j h (by simpa using e)
        exact ⟨l, v', og, by simpa using e1, by simpa using e2, e3, e4⟩
    | m kb es =>
      simp only [lvHv] at e
      cases j with
      | zero => simp at e; subst e; exact ⟨_, v, none, rfl, rfl, rfl, OrgOk.none⟩
      | succ j =>
        obtain ⟨l, v', og, e1, e2, e3, e4⟩ := lvHv_at (ls := ls) (vs := vs) (i := i) (by simpa using hl) (fun k v hk => ha k v (by simpa [slV] using hk)) j h (by simpa using e)
        exact ⟨l, v', og, by simpa using e1, by simpa using e2, e3, e4⟩
theorem lvHv_length : ∀ {ls : (List L)} {i : Nat}, (lvHv i ls).length = ls.length
  | [], i => rfl
  | l :: ls, i => by cases l <;> simp [lvHv, lvHv_length (ls := ls)]
theorem lvHv_some {ls : (List L)} {i j : Nat} {l : L} (h : ls[j]? = some l) : ∃ og, (lvHv i ls)[j]? = some ⟨0, 0, og, .own l⟩ := by
  induction ls generalizing i j with
  | nil => simp at h
  | cons x ls ih =>
    cases j with
    | zero => simp at h; subst h; cases x <;> exact ⟨_, rfl⟩
    | succ j =>
      simp at h
      cases x with
      | s sz es => obtain ⟨og, e⟩ := ih (i := i + 1) h; exact ⟨og, by simpa [lvHv] using e⟩
      | v y => obtain ⟨og, e⟩ := ih (i := i) h; exact ⟨og, by simpa [lvHv] using e⟩
      | g => obtain ⟨og, e⟩ := ih (i := i) h; exact ⟨og, by simpa [lvHv] using e⟩
      | m _ _ => obtain ⟨og, e⟩ := ih (i := i) h; exact ⟨og, by simpa [lvHv] using e⟩
theorem slV_length : ∀ {ls : (List L)} {vs : List Value}, vs.length = ls.length → (slV ls vs).length = (slL ls).length
  | [], [], _ => rfl
  | [], _ :: _, h => by simp at h
  | _ :: _, [], h => by simp at h
  | l :: ls, v :: vs, h => by
    have ih := slV_length (ls := ls) (vs := vs) (by simpa using h)
    cases l <;> simp [slV, slL, ih]

theorem put_self {a : Act} {p : Nat} {v : Value} (hp : p < a.tmps.size) (h : a.tmps.getD p undef = v) : a.put (some p) v = a := by
  obtain ⟨t, d⟩ := a
  simp only [Act.put] at *
  congr 1
  apply Array.ext_getElem?
  intro i
  rw [Array.getElem?_setIfInBounds]
  by_cases e : p = i
  · subst e
    rw [if_pos rfl, if_pos hp]
    rw [← h, Array.getD_eq_getD_getElem?, Array.getElem?_eq_getElem hp]; rfl
  · rw [if_neg e]

theorem initWs_sim : ∀ (ds : List DV) (p i : Nat) (vs : List Value) (S : List Nat) (g : Gm) (G : Gh), SimG cx G g a w → (∀ r, p ≤ r → g (.meta_ r) = none) → RdDVs w ds vs S → S.Nodup →
    (∀ b ∈ S, Unf w b ∧ G.ow b = some (.leaf cx.n 0)) → p + ds.length ≤ cx.n → (∀ k v, vs[k]? = some v → a.tmps.getD (p + k) undef = v) → (∀ k v, (argVals ds vs)[k]? = some v → cx.anc (i + k) = v) →
    Sim cx (apps g (initWs stdO p i ds)) a w
  | [], p, i, vs, S, g, G, hS, _, _, _, _, _, _, _ => ⟨G, hS⟩
  | d :: ds, p, i, vs, S, g, G, hS, hm, hr, hnd, htok, hn, hv, ha => by
    simp only [RdDVs] at hr
    obtain ⟨v, vs', S1, S2, rfl, h1, h2, rfl⟩ := hr
    rw [List.nodup_append] at hnd
    obtain ⟨n1, n2, n3⟩ := hnd
    -- the leaves' values
    obtain ⟨lv, q1, q2, q3, q4⟩ : ∃ lv, RdRec w (dvLeaves d) lv S1 ∧ (∀ dl, d = .one dl → lv = [v]) ∧ (∀ dls, d = .agg dls → v = .agg lv.toArray) ∧ argVals (d :: ds) (v :: vs') = slV (dvLeaves d) lv ++ argVals ds vs' := by
      cases d with
      | one l => exact ⟨[v], by simp only [dvLeaves, RdRec]; exact ⟨v, [], S1, [], rfl, h1, ⟨rfl, rfl⟩, by simp⟩, fun _ _ => rfl, (fun _ e => by cases e), rfl⟩
      | agg ls => obtain ⟨us, rfl, h1'⟩ := h1; exact ⟨us, h1', (fun _ e => by cases e), (fun _ e => by cases e; rfl), by simp [argVals, dvLeaves]⟩
      | _ => exact h1.elim
    obtain ⟨Ss, s1, s2, s3⟩ := q1.items
    have hlen := q1.length
    have ha1 : ∀ k v, (slV (dvLeaves d) lv)[k]? = some v → cx.anc (i + k) = v := by
      intro k u hk
      refine ha k u ?_
      rw [q4, List.getElem?_append_left (List.getElem?_eq_some_iff.1 hk).1]; exact hk
    have hat := fun j h => lvHv_at (cx := cx) (ls := dvLeaves d) (vs := lv) (i := i) hlen ha1 j h
    have hnone : gl g cx.n 0 = none := by
      cases e : gl g cx.n 0 with
      | none => rfl
      | some y =>
        obtain ⟨_, k, bx, _, e2, _⟩ := hS.leaf cx.n 0 _ (gl_some.1 e)
        rw [hm cx.n (by simp at hn; omega)] at e2; cases e2
    obtain ⟨G', k1, k2, _, _, k5⟩ := hS.newRoot (hm p (Nat.le_refl _)) false (lvHv i (dvLeaves d)) w (Same.refl _ _) (fun j => lv.getD j undef) (fun j => Ss.getD j [])
      (by
        intro j h hj
        obtain ⟨l, u, og, e1, e2, e3, _⟩ := hat j h hj
        obtain ⟨u', z1, z2⟩ := s3 j l e1
        rw [e3]
        simp only [New]
        refine ⟨by simpa [List.getD, z1] using z2, nodup_getD (by rw [s1]; exact n1) j, fun b hb => ?_⟩
        have := htok b (List.mem_append.2 (.inl (by rw [← s1]; exact flatten_getD hb)))
        exact ⟨this.1, .inr ⟨cx.n, 0, this.2, fun h l e => by rw [hnone] at e; cases e⟩⟩)
      (by
        intro j h hj
        obtain ⟨l, u, og, e1, e2, e3, e4⟩ := hat j h hj
        have : lv.getD j undef = u := by simp [List.getD, e2]
        rw [this]; exact e4)
      (fun i j _ _ hij => flatten_disj (by rw [s1]; exact n1) i j hij) 0 0 (by simp)
    have hpn : p < cx.n := by simp at hn; omega
    have hg : ∀ j l, (dvLeaves d)[j]? = some l → ∃ og, gl ((W.root p false (lvHv i (dvLeaves d))).app g) p (0 + j) = some ⟨0, 0, og, .own l⟩ := by
      intro j l e
      obtain ⟨og, e2⟩ := lvHv_some (i := i) e
      exact ⟨og, by simp [gl, W.app, e2]⟩
    have hrok : ROk (gl ((W.root p false (lvHv i (dvLeaves d))).app g)) G' w (resR p 0 d) v := by
      refine resR_ok h1 hg ?_
      intro lv' z1 z2 z3 j u e
      have : lv' = lv := by
        cases d with
        | one l => rw [z2 l rfl, q2 l rfl]
        | agg ls => have e1 := z3 ls rfl; rw [q3 ls rfl] at e1; simpa using e1.symm
        | _ => exact h1.elim
      subst this
      rw [k2, Nat.zero_add]; simp [List.getD, e]
    have hput := k1.put hpn hrok
    have hself : a.put (some p) v = a := put_self (by rw [hS.tm]; exact hpn) (by have := hv 0 v (by simp); simpa using this)
    rw [hself] at hput
    simp only [initWs, apps, resR_std]
    refine initWs_sim ds (p + 1) _ vs' S2 _ G' hput ?_ h2 n2 ?_ (by simp at hn; omega) ?_ ?_
    · intro r hr
      simp only [W.app]
      rw [if_neg (by intro e; cases e), if_neg (by omega)]
      exact hm r (by omega)
    · intro b hb
      have := htok b (List.mem_append.2 (.inr hb))
      refine ⟨this.1, ?_⟩
      rw [k5 b (by simp) (fun j _ hbj => n3 b (by rw [← s1]; exact flatten_getD hbj) b hb rfl)]
      exact this.2
    · intro k u e
      rw [show p + 1 + k = p + (k + 1) from by omega]
      exact hv (k + 1) u (by simpa using e)
    · intro k u e
      have hsl := slV_length hlen
      rw [show i + (slL (dvLeaves d)).length + k = i + ((slV (dvLeaves d) lv).length + k) from by rw [hsl]; omega]
      refine ha _ u ?_
      rw [q4, List.getElem?_append_right (by omega)]
      simpa using e

end
end Go.V

/-
  The value-level condition generator, part 36: contracts of functions that write into their arguments, or call such.
-/
namespace Go.V

def noMT {Φ : Type} (_ : Φ) : MT := fun _ => none
def noC {Φ : Type} (_ : Φ) : CT := fun _ _ => none

section
variable {P : Program} {T : Tab} {cx : Cx} {G : Gh} {g : Gm} {a : Act} {w : World}

theorem initM_sim (n : Nat) (w : World) (ds : List DV) (vs : List Value) (S : List Nat) (hr : RdDVs w ds vs S) (hnd : S.Nodup) (hunf : ∀ b ∈ S, Unf w b) (hn : ds.length ≤ n) :
    Sim ⟨n, w, fun b => b ∉ S, fun i => (argVals ds vs).getD i undef, fun _ => none, fun _ => 0, fun _ => True⟩ (get (initM stdO ds)) { tmps := vs.toArray ++ Array.replicate (n - vs.toArray.size) undef, defers := [] } w := by
  have hlen : ∀ (ds : List DV) (vs : List Value) (S : List Nat), RdDVs w ds vs S → vs.length = ds.length := by
    intro ds
    induction ds with
    | nil => intro vs S h; simp only [RdDVs] at h; simp [h.1]
    | cons d ds ih => intro vs S h; simp only [RdDVs] at h; obtain ⟨v, vs', S1, S2, rfl, _, h2, _⟩ := h; simp [ih _ _ h2]
  have hl := hlen ds vs S hr
  open Classical in
  let G : Gh := { loc := fun _ => none, val := fun _ _ => undef, fp := fun _ _ => [], ow := fun b => if b ∈ S then some (.leaf n 0) else if b < w.heap.size then some .ro else none, lead := id }
  unfold initM
  rw [get_push]
  refine initWs_sim ds 0 0 vs S (get []) G ?_ (fun _ _ => rfl) hr hnd (fun b hb => ⟨hunf b hb, by simp [G, hb]⟩) (by simp; omega) ?_ ?_
  · refine ⟨rfl, by simp; omega, ?_, ?_, ?_, ?_, ?_, ?_, Same.refl _ _, ?_, ?_, ?_, (fun r b o e => by cases e), (fun r1 r2 k1 k2 b o1 o2 _ e => by simp [get] at e), (fun r b o e => by cases e), fun _ _ => trivial⟩
    · intro d x hx; cases hx
    · intro r k hk; cases hk
    · intro r j x hx; cases hx
    · intro r x hx; cases hx
    · intro r b hb; cases hb
    · intro b t hb
      by_cases c : b ∈ S
      · exact (hunf b c).lt
      · by_cases c2 : b < w.heap.size
        · exact c2
        · simp [G, c, c2] at hb
    · intro b hb hf
      have hf : b ∉ S := hf
      have hb : b < w.heap.size := hb
      right; simp [G, hf, hb]
    · intro r j h e; simp [gl, get] at e
    · intro r x e; cases e
  · intro k v e
    have hk : k < vs.length := (List.getElem?_eq_some_iff.1 e).1
    simp only [Nat.zero_add, Array.getD_eq_getD_getElem?]
    rw [Array.getElem?_append_left (by simpa using hk)]
    simp [e]
  · intro k v e
    simp only [Nat.zero_add, List.getD_eq_getElem?_getD, e]; rfl

theorem outsR_sound (hS : SimG cx G g a w) {α : Type} {k : Rd α} {os : Nat → L} : ∀ (locs : List (Nat × Nat)) (i : Nat) (ls : List Loc) (out : α), (outsR prS os locs i k).Runs g ls out →
    (∀ p ∈ locs, ∃ h sz es, g (.leaf p.1 p.2) = some (.h h) ∧ h.c = .own (.s sz es)) ∧ RdRec w ((List.range' i locs.length).map os) ((List.range' i locs.length).map cx.anc) (fpsOf G locs)
  | [], i, ls, out, h => ⟨(fun p hp => by cases hp), by simp [RdRec, fpsOf]⟩
  | (r, j) :: ps, i, ls, out, h => by
    obtain ⟨hv, ls2, q1, q2, hk⟩ := rdH_sound (k := fun h => match h.org with
      | some i' => if Nat.beq i' i then match h.c with
        | .own (.s sz es) => .req (prS fun _ => L.s sz es = os i) (outsR prS os ps (i + 1) k)
        | _ => .fail
        else .fail
      | none => .fail) h
    cases ho : hv.org with
    | none => simp [ho, Rd.Runs] at hk
    | some i' =>
      simp only [ho] at hk
      split at hk
      case isFalse => exact hk.elim
      rename_i hb
      have hi := Nat.eq_of_beq_eq_true hb
      subst hi
      split at hk
      · rename_i sz es hc
        obtain ⟨hp, hk⟩ := hk
        have hp : L.s sz es = os i' := hp
        obtain ⟨k1, k2⟩ := outsR_sound hS ps (i' + 1) _ _ hk
        have hval := hS.anc r j hv q1 i' ho ⟨_, .inl hc⟩
        have hok := hS.hok q1
        simp only [HOk, hc] at hok
        refine ⟨fun p hp => ?_, ?_⟩
        · rcases List.mem_cons.1 hp with rfl | hp
          · exact ⟨hv, sz, es, q2, hc⟩
          · exact k1 p hp
        · simp only [RdRec, List.length_cons, List.range'_succ, List.map_cons]
          exact ⟨_, _, G.fp r j, fpsOf G ps, rfl, by rw [← hval, ← hp]; exact hok.1, k2, rfl⟩
      · exact hk.elim

theorem argVals_length : ∀ {ds : List DV} {vs : List Value} {S : List Nat}, RdDVs w ds vs S → (argVals ds vs).length = (ds.flatMap fun d => slL (dvLeaves d)).length
  | [], vs, S, h => by simp only [RdDVs] at h; simp [h.1, argVals]
  | d :: ds, vs, S, h => by
    simp only [RdDVs] at h
    obtain ⟨v, vs', S1, S2, rfl, h1, h2, rfl⟩ := h
    have ih := argVals_length h2
    cases d with
    | one l =>
      have : (slV [l] [v]).length = (slL [l]).length := slV_length rfl
      simp only [argVals, List.length_append, List.flatMap_cons, dvLeaves, this, ih]
    | agg ls =>
      obtain ⟨us, rfl, h1⟩ := h1
      have := slV_length h1.length
      simp only [argVals, List.length_append, List.flatMap_cons, dvLeaves, ih]
      omega
    | _ => exact h1.elim

theorem res_value {fn : Func} {tmps : Array Value} {w' : World} {vs' : List Value} {ds' : List DV} {S : List Nat} (k1 : (fn.results.toList.mapM (resRun tmps)).run P w' = .ok vs' w') (k2 : RdDVs w' ds' vs' S) :
    ∃ v, (results fn tmps).run P w' = .ok v w' ∧ RdRes w' ds' v S := by
  have hrun : (results fn tmps).run P w' = .ok (if h : vs'.toArray.size = 1 then vs'.toArray[0] else .tuple vs'.toArray) w' := by
    rw [results_eq, Array.mapM_eq_mapM_toList (m := Sem)]
    simp only [Sem.run_bind, Sem.run_map, k1, Result.andThen_ok, Sem.run_pure]
  refine ⟨_, hrun, ?_⟩
  have hl : ∀ {ds : List DV} {vs : List Value} {S : List Nat}, RdDVs w' ds vs S → vs.length = ds.length := by
    intro ds
    induction ds with
    | nil => intro vs S h; simp only [RdDVs] at h; simp [h.1]
    | cons d ds ih => intro vs S h; simp only [RdDVs] at h; obtain ⟨v, vs', S1, S2, rfl, _, h2, _⟩ := h; simp [ih h2]
  have hlen := hl k2
  cases ds' with
  | nil =>
    have : vs' = [] := List.eq_nil_of_length_eq_zero hlen
    subst this
    exact ⟨[], by simp, k2⟩
  | cons d1 rest =>
    cases rest with
    | nil =>
      simp only [RdDVs] at k2
      obtain ⟨v, vs'', S1, S2, rfl, q1, ⟨rfl, rfl⟩, rfl⟩ := k2
      simpa [RdRes] using q1
    | cons d2 rest =>
      have : ¬ vs'.toArray.size = 1 := by simp at hlen; simp; omega
      rw [dif_neg this]
      exact ⟨vs', rfl, k2⟩

theorem noMT_ok {Φ : Type} {F : Φ} : MTok P (noMT F) := by intro f mk h; cases h
theorem noC_ok {Φ : Type} {F : Φ} : CTok P (noC F) := by intro f ds pre res h; cases h

end
end Go.V

/-
  The value-level condition generator, part 41: contracts out of conditions; those of functions that write through pointers.
-/
namespace Go.V

abbrev PT := FuncId → Option PK
abbrev NT := FuncId → Option NK
abbrev OT := FuncId → Option OK'
def noOT {Φ : Type} (_ : Φ) : OT := fun _ => none
theorem noOT_ok {P : Program} {Φ : Type} {F : Φ} : OTok P (noOT F) := by intro f mk h; cases h
def noNT {Φ : Type} (_ : Φ) : NT := fun _ => none
theorem noNT_ok {P : Program} {Φ : Type} {F : Φ} : NTok P (noNT F) := by intro f mk h; cases h
def noPT {Φ : Type} (_ : Φ) : PT := fun _ => none
theorem noPT_ok {P : Program} {Φ : Type} {F : Φ} : PTok P (noPT F) := by intro f mk h; cases h

/-! ### The beginning -/
def hvP (r : Nat) : Nat → List H → List Hv
  | _, [] => []
  | j, .own l :: hs => ⟨0, 0, none, .own l⟩ :: hvP r (j + 1) hs
  | j, h :: hs => ⟨0, 0, some (r * 1000 + j), h⟩ :: hvP r (j + 1) hs
def initPs : Nat → List DV → VS
  | _, [] => []
  | p, .mp hs :: ds => .reg p (.one (.pt p 0)) :: .root p true (hvP p 0 hs) :: initPs (p + 1) ds
  | p, d :: ds => .reg p (argR d) :: initPs (p + 1) ds
def mpL : Nat → List DV → List (Nat × List H)
  | _, [] => []
  | p, .mp hs :: ds => (p, hs) :: mpL (p + 1) ds
  | p, _ :: ds => mpL (p + 1) ds
def pAt : Nat → List DV → List PArg → Nat → Option PArg
  | p, .mp _ :: ds, q :: ps, r => if r = p then some q else pAt (p + 1) ds ps r
  | _, .mp _ :: _, [], _ => none
  | p, _ :: ds, ps, r => pAt (p + 1) ds ps r
  | _, [], _, _ => none

theorem hvP_at {r : Nat} : ∀ {hs : List H} {j i : Nat} {h : Hv}, (hvP r j hs)[i]? = some h → ∃ c, hs[i]? = some c ∧ h.ver = 0 ∧ h.iv = 0 ∧ h.c = c ∧ (∀ l, c = .own l → h.org = none) ∧ ((∀ l, c ≠ .own l) → h.org = some (r * 1000 + (j + i)))
  | [], j, i, h, e => by simp [hvP] at e
  | c :: hs, j, i, h, e => by
    cases i with
    | zero =>
      cases c with
      | own l => simp [hvP] at e; subst e; exact ⟨_, rfl, rfl, rfl, rfl, fun _ _ => rfl, fun k => absurd rfl (k l)⟩
      | ro l => simp [hvP] at e; subst e; exact ⟨_, rfl, rfl, rfl, rfl, (fun _ k => by cases k), fun _ => rfl⟩
      | gone => simp [hvP] at e; subst e; exact ⟨_, rfl, rfl, rfl, rfl, (fun _ k => by cases k), fun _ => rfl⟩
    | succ i =>
      have : (hvP r (j + 1) hs)[i]? = some h := by cases c <;> simpa [hvP] using e
      obtain ⟨c', q1, q2, q3, q4, q5, q6⟩ := hvP_at this
      exact ⟨c', by simpa using q1, q2, q3, q4, q5, fun k => by rw [q6 k]; congr 2; omega⟩
theorem hvP_length {r : Nat} : ∀ {hs : List H} {j : Nat}, (hvP r j hs).length = hs.length
  | [], _ => rfl
  | c :: hs, j => by cases c <;> simp [hvP, hvP_length (hs := hs)]

section
variable {P : Program} {T : Tab} {w : World} {ok : Nat → Prop}

theorem PArgs.length : ∀ {ds : List DV} {vs : List Value} {ps : List PArg}, PArgs w ok ds vs ps → vs.length = ds.length
  | [], vs, ps, h => by simp only [PArgs] at h; simp [h.1]
  | d :: ds, vs, ps, h => by
    cases d with
    | mp hs => obtain ⟨p, ps', vs', rfl, rfl, _, h⟩ := h; simp [h.length]
    | one l => obtain ⟨v, vs', S, rfl, _, _, h⟩ := h; simp [PArgs.length h]
    | agg l => obtain ⟨v, vs', S, rfl, _, _, h⟩ := h; simp [PArgs.length h]
    | ptr l => obtain ⟨v, vs', S, rfl, _, _, h⟩ := h; simp [PArgs.length h]
    | fn f l => obtain ⟨v, vs', S, rfl, _, _, h⟩ := h; simp [PArgs.length h]
theorem pAt_ge : ∀ {ds : List DV} {ps : List PArg} {p r : Nat} {q : PArg}, pAt p ds ps r = some q → p ≤ r ∧ r < p + ds.length
  | [], ps, p, r, q, h => by simp [pAt] at h
  | d :: ds, ps, p, r, q, h => by
    have step : ∀ ps, pAt (p + 1) ds ps r = some q → p ≤ r ∧ r < p + (d :: ds).length := fun ps h => by
      have := pAt_ge h; simp; omega
    cases d with
    | mp hs =>
      cases ps with
      | nil => simp [pAt] at h
      | cons q' ps =>
        simp only [pAt] at h
        split at h
        · simp; omega
        · exact step _ h
    | _ => exact step ps h
theorem pAt_ix : ∀ {ds : List DV} {vs : List Value} {ps : List PArg} {p r : Nat} {q : PArg}, PArgs w ok ds vs ps → (pAt p ds ps r = some q ↔ ∃ k : Nat, (mpL p ds)[k]? = some (r, q.hs) ∧ ps[k]? = some q)
  | [], vs, ps, p, r, q, ha => by simp [pAt, mpL]
  | d :: ds, vs, ps, p, r, q, ha => by
    have mge : ∀ {ds : List DV} {p k : Nat} {x : Nat × List H}, (mpL p ds)[k]? = some x → p ≤ x.1 := by
      intro ds
      induction ds with
      | nil => intro p k x h; simp [mpL] at h
      | cons d ds ih =>
        intro p k x h
        cases d with
        | mp hs =>
          simp only [mpL] at h
          cases k with
          | zero => simp at h; subst h; exact Nat.le_refl _
          | succ k => simp at h; have := ih h; omega
        | _ => have := ih (p := p + 1) h; omega
    cases d with
    | mp hs =>
      obtain ⟨p0, ps', vs', rfl, rfl, e, ha⟩ := ha
      have ih := pAt_ix (p := p + 1) (r := r) (q := q) ha
      simp only [pAt, mpL]
      constructor
      · intro h
        split at h
        · rename_i c; cases h; exact ⟨0, by simp [c, e], by simp⟩
        · obtain ⟨k, h1, h2⟩ := ih.1 h; exact ⟨k + 1, by simpa using h1, by simpa using h2⟩
      · rintro ⟨k, h1, h2⟩
        cases k with
        | zero => simp at h1 h2; rw [if_pos h1.1.symm]; rw [h2]
        | succ k =>
          simp at h1 h2
          have := mge h1
          rw [if_neg (by simp only at this; omega)]
          exact ih.2 ⟨k, h1, h2⟩
    | one l => obtain ⟨v, vs', S, rfl, _, _, ha⟩ := ha; exact pAt_ix (p := p + 1) ha
    | agg l => obtain ⟨v, vs', S, rfl, _, _, ha⟩ := ha; exact pAt_ix (p := p + 1) ha
    | ptr l => obtain ⟨v, vs', S, rfl, _, _, ha⟩ := ha; exact pAt_ix (p := p + 1) ha
    | fn f l => obtain ⟨v, vs', S, rfl, _, _, ha⟩ := ha; exact pAt_ix (p := p + 1) ha
theorem initPs_get : ∀ {ds : List DV} {vs : List Value} {ps : List PArg} (p : Nat), PArgs w ok ds vs ps →
    (∀ r, get (initPs p ds) (.meta_ r) = (pAt p ds ps r).map fun q => .m q.hs.length true) ∧
    (∀ r j, get (initPs p ds) (.leaf r j) = (pAt p ds ps r).bind fun q => ((hvP r 0 q.hs)[j]?).map .h) ∧
    (∀ d x, get (initPs p ds) (.reg d) = some x → ∃ i, d = p + i ∧ i < vs.length ∧ ((∃ q, pAt p ds ps d = some q ∧ x = .r (.one (.pt d 0)) ∧ vs[i]? = some (.pointer (some ⟨q.b, q.off, none⟩))) ∨ (∃ dv v S, x = .r (argR dv) ∧ vs[i]? = some v ∧ RdArg w dv v S ∧ ∀ b ∈ S, ok b)))
  | [], vs, ps, p, ha => by
    refine ⟨fun r => rfl, fun r j => rfl, fun d x h => by cases h⟩
  | d :: ds, vs, ps, p, ha => by
    have other : ∀ (v : Value) (vs' : List Value) (S : List Nat), vs = v :: vs' → RdArg w d v S → (∀ b ∈ S, ok b) → PArgs w ok ds vs' ps → (∀ r, pAt p (d :: ds) ps r = pAt (p + 1) ds ps r) → initPs p (d :: ds) = .reg p (argR d) :: initPs (p + 1) ds →
        (∀ r, get (initPs p (d :: ds)) (.meta_ r) = (pAt p (d :: ds) ps r).map fun q => .m q.hs.length true) ∧
        (∀ r j, get (initPs p (d :: ds)) (.leaf r j) = (pAt p (d :: ds) ps r).bind fun q => ((hvP r 0 q.hs)[j]?).map .h) ∧
        (∀ d' x, get (initPs p (d :: ds)) (.reg d') = some x → ∃ i, d' = p + i ∧ i < vs.length ∧ ((∃ q, pAt p (d :: ds) ps d' = some q ∧ x = .r (.one (.pt d' 0)) ∧ vs[i]? = some (.pointer (some ⟨q.b, q.off, none⟩))) ∨ (∃ dv v S, x = .r (argR dv) ∧ vs[i]? = some v ∧ RdArg w dv v S ∧ ∀ b ∈ S, ok b))) := by
      intro v vs' S e h1 h2 h3 h4 h5
      subst e
      obtain ⟨i1, i2, i3⟩ := initPs_get (p + 1) h3
      rw [h5]
      refine ⟨fun r => by rw [h4, ← i1]; simp [get, W.app], fun r j => by rw [h4, ← i2]; simp [get, W.app], fun d' x hx => ?_⟩
      simp only [get, W.app] at hx
      split at hx
      · rename_i c; cases c; cases hx
        exact ⟨0, rfl, by simp, .inr ⟨d, v, S, rfl, rfl, h1, h2⟩⟩
      · obtain ⟨i, e1, e2, e3⟩ := i3 d' x hx
        refine ⟨i + 1, by omega, by simpa using e2, ?_⟩
        rw [h4]
        rcases e3 with ⟨q, k1, k2, k3⟩ | ⟨dv, v', S', k1, k2, k3, k4⟩
        · exact .inl ⟨q, k1, k2, by simpa using k3⟩
        · exact .inr ⟨dv, v', S', k1, by simpa using k2, k3, k4⟩
    cases d with
    | mp hs =>
      obtain ⟨q, ps', vs', rfl, rfl, e, ha⟩ := ha
      obtain ⟨i1, i2, i3⟩ := initPs_get (p + 1) ha
      subst e
      have hp : pAt (p + 1) ds ps' p = none := by
        cases h : pAt (p + 1) ds ps' p with
        | none => rfl
        | some q => have := pAt_ge h; omega
      refine ⟨fun r => ?_, fun r j => ?_, fun d' x hx => ?_⟩
      · simp only [initPs, get, W.app, pAt]
        by_cases c : r = p
        · subst c; simp [hvP_length]
        · simp [c, i1]
      · simp only [initPs, get, W.app, pAt]
        by_cases c : r = p
        · subst c; simp
        · simp [c, i2]
      · simp only [initPs, get, W.app] at hx
        split at hx
        · rename_i c; cases c; cases hx
          exact ⟨0, rfl, by simp, .inl ⟨q, by simp [pAt], rfl, rfl⟩⟩
        · rename_i c
          obtain ⟨i, e1, e2, e3⟩ := i3 d' x hx
          refine ⟨i + 1, by omega, by simpa using e2, ?_⟩
          have hne : d' ≠ p := by omega
          rcases e3 with ⟨q', k1, k2, k3⟩ | ⟨dv, v', S', k1, k2, k3, k4⟩
          · exact .inl ⟨q', by simp only [pAt]; rw [if_neg hne]; exact k1, k2, by simpa using k3⟩
          · exact .inr ⟨dv, v', S', k1, by simpa using k2, k3, k4⟩
    | one l => obtain ⟨v, vs', S, e, h1, h2, h3⟩ := ha; exact other v vs' S e h1 h2 h3 (fun _ => rfl) rfl
    | agg l => obtain ⟨v, vs', S, e, h1, h2, h3⟩ := ha; exact other v vs' S e h1 h2 h3 (fun _ => rfl) rfl
    | ptr l => obtain ⟨v, vs', S, e, h1, h2, h3⟩ := ha; exact other v vs' S e h1 h2 h3 (fun _ => rfl) rfl
    | fn f l => obtain ⟨v, vs', S, e, h1, h2, h3⟩ := ha; exact other v vs' S e h1 h2 h3 (fun _ => rfl) rfl

open Classical in
theorem initP_sim (n : Nat) (w : World) (ds : List DV) (vs : List Value) (ps : List PArg) (h : PPre w ds vs ps) (hn : ds.length ≤ n) (anc : Nat → Value) (hanc : ∀ r q j l, pAt 0 ds ps r = some q → q.hs[j]? = some (.ro l) → anc (r * 1000 + j) = q.val j) :
    ∃ G, SimG ⟨n, w, fun b => ¬ OwnB ps b ∧ ¬ PtrB ps b, anc, fun r => (pAt 0 ds ps r).map fun q => (q.b, q.off), fun r => ((pAt 0 ds ps r).map fun q => q.hs.length).getD 0, fun _ => True⟩ G (get (initPs 0 ds)) { tmps := vs.toArray ++ Array.replicate (n - vs.toArray.size) undef, defers := [] } w := by
  have hl := h.args.length
  obtain ⟨i1, i2, i3⟩ := initPs_get 0 h.args
  have ix := fun {r q} => pAt_ix (p := 0) (r := r) (q := q) h.args
  have mem : ∀ {r q}, pAt 0 ds ps r = some q → q ∈ ps := fun e => by
    obtain ⟨k, _, e2⟩ := ix.1 e; exact List.mem_of_getElem? e2
  have isO : ∀ b, OwnB ps b → ∃ x : Nat × Nat, ∃ q l, pAt 0 ds ps x.1 = some q ∧ q.hs[x.2]? = some (.own l) ∧ b ∈ q.fp x.2 := by
    rintro b ⟨q, hq, j, l, h1, h2⟩
    obtain ⟨k, hk⟩ := List.getElem?_of_mem hq
    have hlen : ∀ {ds : List DV} {vs : List Value} {ps : List PArg} {p : Nat}, PArgs w (fun b => ¬ OwnB ps b ∧ ¬ PtrB ps b) ds vs ps → True := fun _ => trivial
    have key : ∀ (ok : Nat → Prop) (ds : List DV) (vs : List Value) (ps : List PArg) (p k : Nat) (q : PArg), PArgs w ok ds vs ps → ps[k]? = some q → ∃ r, (mpL p ds)[k]? = some (r, q.hs) := by
      intro ok ds
      induction ds with
      | nil => intro vs ps p k q h e; simp only [PArgs] at h; rw [h.2] at e; simp at e
      | cons d ds ih =>
        intro vs ps p k q h e
        cases d with
        | mp hs =>
          obtain ⟨p0, ps', vs', rfl, rfl, e0, h⟩ := h
          cases k with
          | zero => simp at e; subst e; exact ⟨p, by simp [mpL, e0]⟩
          | succ k => simp at e; obtain ⟨r, hr⟩ := ih vs' ps' (p + 1) k q h e; exact ⟨r, by simpa [mpL] using hr⟩
        | one l => obtain ⟨v, vs', S, rfl, _, _, h⟩ := h; exact ih vs' ps (p + 1) k q h e
        | agg l => obtain ⟨v, vs', S, rfl, _, _, h⟩ := h; exact ih vs' ps (p + 1) k q h e
        | ptr l => obtain ⟨v, vs', S, rfl, _, _, h⟩ := h; exact ih vs' ps (p + 1) k q h e
        | fn f l => obtain ⟨v, vs', S, rfl, _, _, h⟩ := h; exact ih vs' ps (p + 1) k q h e
    obtain ⟨r, hr⟩ := key _ ds vs ps 0 k q h.args hk
    exact ⟨(r, j), q, l, ix.2 ⟨k, hr, hk⟩, h1, h2⟩
  let G : Gh := {
    loc := fun r => (pAt 0 ds ps r).map fun q => (q.b, q.off)
    val := fun r j => ((pAt 0 ds ps r).map fun q => q.val j).getD undef
    fp := fun r j => ((pAt 0 ds ps r).map fun q => q.fp j).getD []
    ow := fun b => if ho : OwnB ps b then some (.leaf (isO b ho).choose.1 (isO b ho).choose.2) else if PtrB ps b then some (.box b) else if b < w.heap.size then some .ro else none
    lead := fun r => ((pAt 0 ds ps r).map fun q => q.b).getD 0 }
  have ixne : ∀ {r r' q q'}, pAt 0 ds ps r = some q → pAt 0 ds ps r' = some q' → r ≠ r' → ∃ k k' : Nat, k ≠ k' ∧ ps[k]? = some q ∧ ps[k']? = some q' := by
    intro r r' q q' e1 e2 hne
    obtain ⟨k, a1, a2⟩ := ix.1 e1
    obtain ⟨k', b1, b2⟩ := ix.1 e2
    refine ⟨k, k', fun e => ?_, a2, b2⟩
    subst e
    have h := a1.symm.trans b1
    simp at h
    exact hne h.1
  have owO : ∀ r j q l, pAt 0 ds ps r = some q → q.hs[j]? = some (.own l) → ∀ b ∈ q.fp j, G.ow b = some (.leaf r j) := by
    intro r j q l e1 e2 b hb
    have ho : OwnB ps b := ⟨q, mem e1, j, l, e2, hb⟩
    simp only [G, dif_pos ho]
    obtain ⟨q', l', f1, f2, f3⟩ := (isO b ho).choose_spec
    generalize (isO b ho).choose = x at *
    by_cases c : x.1 = r
    · rw [c, e1] at f1; cases f1
      by_cases cj : x.2 = j
      · rw [c, cj]
      · obtain ⟨k, _, hk⟩ := ix.1 e1
        exact absurd hb (h.disj k _ k j q q l' l hk hk f2 e2 (fun e => cj (by cases e; rfl)) b f3)
    · obtain ⟨k, k', hne, hk, hk'⟩ := ixne f1 e1 c
      exact absurd hb (h.disj k _ k' j q' q l' l hk hk' f2 e2 (fun e => hne (by cases e; rfl)) b f3)
  have owP : ∀ b, PtrB ps b → G.ow b = some (.box b) := by
    intro b hb
    simp only [G, dif_neg (h.box b hb), if_pos hb]
  have owR : ∀ b, b < w.heap.size → ¬ OwnB ps b ∧ ¬ PtrB ps b → G.ow b = some .ro := by
    intro b hb ⟨h1, h2⟩
    simp only [G, dif_neg h1, if_neg h2, if_pos hb]
  have cellq : ∀ {r q}, pAt 0 ds ps r = some q → ∃ cur ty, w.heap[q.b]? = some (.cells cur ty (0, 0)) ∧ q.off + q.hs.length ≤ cur.size ∧ ∀ j, j < q.hs.length → cur[q.off + j]? = some (q.val j) := fun e => h.cell _ (mem e)
  refine ⟨G, rfl, by simp; omega, ?_, ?_, ?_, ?_, ?_, ?_, Same.refl _ _, ?_, ?_, ?_, ?_, ?_, ?_, fun _ _ => trivial⟩
  · intro d x hx
    obtain ⟨i, rfl, e2, e3⟩ := i3 d x hx
    have hv : ∀ v, vs[i]? = some v → (vs.toArray ++ Array.replicate (n - vs.toArray.size) undef).getD (0 + i) undef = v := by
      intro v hv
      simp only [Array.getD_eq_getD_getElem?, Nat.zero_add]
      rw [Array.getElem?_append_left (by simpa using e2)]
      simp [hv]
    refine ⟨by show 0 + i < n; omega, ?_⟩
    rcases e3 with ⟨q, k1, k2, k3⟩ | ⟨dv, v, S, k1, k2, k3, k4⟩
    · refine ⟨_, k2, ?_⟩
      simp only [ROk, AOk]
      exact ⟨q.b, q.off, by simp only [G, k1, Option.map_some], hv _ k3⟩
    · refine ⟨_, k1, ?_⟩
      simp only
      rw [hv _ k2]
      have tok : ∀ b ∈ S, b < w.heap.size → G.ow b = some .ro := fun b hb hlt => owR b hlt (k4 b hb)
      cases dv with
      | one l =>
        simp only [argR, ROk]
        have := roA_ok (γ := gl (get (initPs 0 ds))) (G := G) [l] [v] S (by simp only [RdRec]; exact ⟨v, [], S, [], rfl, k3, ⟨rfl, rfl⟩, by simp⟩) (fun b hb => tok b hb (RdL.lt _ _ _ k3 b hb))
        simp only [List.map_cons, List.map_nil, AOks] at this
        obtain ⟨v', vs'', e, h3, _⟩ := this
        cases e; exact h3
      | agg lls =>
        obtain ⟨us, e, h1⟩ := k3
        simp only [argR, ROk]
        exact ⟨us, e, roA_ok _ _ S h1 (fun b hb => tok b hb (RdRec.lt _ _ _ h1 b hb))⟩
      | ptr rec =>
        obtain ⟨b, off, cur, ty, fz, S', e1, e2, e3, e4, rfl⟩ := k3
        simp only [argR, ROk]
        exact ⟨b, off, cur, ty, fz, S', e1, e2, tok b (by simp) (Array.getElem?_eq_some_iff.1 e2).1, e3, e4, fun c hc => tok c (by simp [hc]) (RdRec.lt _ _ _ e4 c hc)⟩
      | fn f caps =>
        obtain ⟨us, e, h1⟩ := k3
        simp only [argR, ROk]
        refine ⟨us, e, ?_⟩
        have key : ∀ (caps : List (List L)) (us : List Value) (S' : List Nat), RdPts w caps us S' → (∀ b ∈ S', b ∈ S) → CapsOk G w (caps.map fun rec => .rp rec 0) us := by
          intro caps
          induction caps with
          | nil => intro us S' h _; simp only [RdPts] at h; simp [CapsOk, h.1]
          | cons r rs ih =>
            intro us S' h hsub
            simp only [RdPts] at h
            obtain ⟨v, vs', S1, S2, rfl, q1, q2, rfl⟩ := h
            obtain ⟨b, off, cur, ty, fz, S3, e1, e2, e3, e4, rfl⟩ := q1
            exact ⟨v, vs', rfl, ⟨b, off, cur, ty, fz, S3, e1, e2, tok b (hsub b (by simp)) (Array.getElem?_eq_some_iff.1 e2).1, e3, e4, fun c hc => tok c (hsub c (by simp [hc])) (RdRec.lt _ _ _ e4 c hc)⟩, ih _ _ q2 (fun b hb => hsub b (by simp [hb]))⟩
        exact key caps us S h1 (fun b hb => hb)
      | mp hs => exact k3.elim
  · intro r k hk
    rw [i1] at hk
    cases e : pAt 0 ds ps r with
    | none => simp [e] at hk
    | some q =>
      simp [e] at hk; subst hk
      obtain ⟨cur, ty, f1, f2, f3⟩ := cellq e
      refine ⟨q.b, q.off, cur, ty, by simp [G, e], ?_, f1, f2, fun j hj => by simp [G, e, f3 j hj]⟩
      rw [owP q.b ⟨q, mem e, rfl⟩]; simp [G, e]
  · intro r j x hx
    rw [i2] at hx
    cases e : pAt 0 ds ps r with
    | none => simp [e] at hx
    | some q =>
      simp only [e, Option.bind_some, Option.map_eq_some_iff] at hx
      obtain ⟨hv, e1, rfl⟩ := hx
      obtain ⟨c, k1, k2, k3, k4, k5, k6⟩ := hvP_at e1
      refine ⟨hv, q.hs.length, true, rfl, by rw [i1, e]; rfl, (List.getElem?_eq_some_iff.1 k1).1, ?_⟩
      unfold HOk
      rw [k4]
      cases c with
      | own l =>
        obtain ⟨m1, m2, m3⟩ := h.own q (mem e) j l k1
        simp only [G, e, Option.map_some, Option.getD_some]
        exact ⟨m1, m2, fun b hb => ⟨owO r j q l e k1 b hb, m3 b hb⟩⟩
      | ro l =>
        obtain ⟨m1, m2⟩ := h.ro q (mem e) j l k1
        simp only [G, e, Option.map_some, Option.getD_some]
        exact ⟨q.fp j, m1, fun b hb => owR b (RdL.lt _ _ _ m1 b hb) (m2 b hb)⟩
      | gone => exact absurd k1 (h.gone q (mem e) j)
  · intro r x hx
    rw [i1] at hx
    cases e : pAt 0 ds ps r with
    | none => simp [e] at hx
    | some q => simp [e] at hx; exact ⟨_, _, hx.symm⟩
  · intro r b hb
    cases e : pAt 0 ds ps r with
    | none => simp [G, e] at hb
    | some q => exact ⟨q.hs.length, by rw [i1, e]; rfl⟩
  · intro b t hb
    simp only [G] at hb
    split at hb
    · rename_i ho
      obtain ⟨q, hq, j, l, e1, e2⟩ := ho
      exact RdL.lt _ _ _ (h.own q hq j l e1).1 b e2
    · split at hb
      · rename_i hp
        obtain ⟨q, hq, rfl⟩ := hp
        obtain ⟨cur, ty, f1, _⟩ := h.cell q hq
        exact (Array.getElem?_eq_some_iff.1 f1).1
      · split at hb
        · rename_i c; exact c
        · cases hb
  · intro b hb hf
    exact .inr (owR b hb hf)
  · intro r j hv e i hi hl
    rw [gl_some, i2] at e
    cases e0 : pAt 0 ds ps r with
    | none => simp [e0] at e
    | some q =>
      simp only [e0, Option.bind_some, Option.map_eq_some_iff] at e
      obtain ⟨hv', e1, e2⟩ := e
      cases e2
      obtain ⟨c, k1, k2, k3, k4, k5, k6⟩ := hvP_at e1
      obtain ⟨l, hl⟩ := hl
      rw [k4] at hl
      cases c with
      | own l' => rw [k5 l' rfl] at hi; cases hi
      | ro l' =>
        rw [k6 (by simp)] at hi; cases hi
        rw [Nat.zero_add]
        show _ = anc _
        rw [hanc r q j l' e0 k1]
        simp [G, e0]
      | gone => rcases hl with e | e <;> cases e
  · intro r x hx
    cases e : pAt 0 ds ps r with
    | none => simp [e] at hx
    | some q => exact ⟨hx, by rw [i1, e]; simp [e]⟩
  · intro r b off hx
    cases e : pAt 0 ds ps r with
    | none => simp [e] at hx
    | some q =>
      simp [e] at hx
      obtain ⟨rfl, rfl⟩ := hx
      obtain ⟨cur, ty, f1, f2, f3⟩ := cellq e
      exact ⟨cur, cur, ty, f1, f1, rfl, fun _ _ => rfl⟩
  · intro r1 r2 k1 k2 b o1 o2 hne h1 h2 q1 q2
    rw [i1] at h1 h2
    cases e1 : pAt 0 ds ps r1 with
    | none => simp [e1] at h1
    | some a1 =>
      cases e2 : pAt 0 ds ps r2 with
      | none => simp [e2] at h2
      | some a2 =>
        simp [e1] at h1; simp [e2] at h2
        simp [G, e1] at q1; simp [G, e2] at q2
        obtain ⟨rfl, rfl⟩ := q1
        obtain ⟨q2, rfl⟩ := q2
        obtain ⟨k, k', hk, m1, m2⟩ := ixne e1 e2 hne
        have := h.sep k k' a1 a2 hk m1 m2 q2.symm
        omega
  · intro r b off hx ha
    cases e : pAt 0 ds ps r with
    | none => simp [G, e] at hx
    | some q => simp [e] at ha
end
end Go.V

/-
  The value-level condition generator, part 42: contracts out of conditions.
-/
namespace Go.V

def outLv {α : Type} (pr : (Unit → Prop) → Prop) (r : Nat) : Nat → List H → (List H → Rd α) → Rd α
  | _, [], k => k []
  | j, h0 :: hs, k => rdH r j fun h => match h.c with
    | .own l => outLv pr r (j + 1) hs fun cs => k (.own l :: cs)
    | .ro l => match h0 with
      | .ro l0 => match h.org with
        | some i => if Nat.beq i (r * 1000 + j) then .req (pr fun _ => l = l0) (outLv pr r (j + 1) hs fun cs => k (.ro l0 :: cs)) else .fail
        | none => .fail
      | _ => .fail
    | .gone => .fail
def outsP {α : Type} (pr : (Unit → Prop) → Prop) (os : Nat → List H) : List (Nat × List H) → Nat → Rd α → Rd α
  | [], _, k => k
  | (r, hs) :: m, i, k => outLv pr r 0 hs fun cs => .req (pr fun _ => cs = os i) (outsP pr os m (i + 1) k)
def vretP (T : Tab) (O : Ops) (ts : List TypeId) (rvs : List ResultVar) (m : List (Nat × List H)) (σ : VS) (res : List DV) (os : Nat → List H) : Prop :=
  (resDsO T O ts rvs fun ds srcs => if distinctP srcs && srcs.all (fun s => m.all fun q => !(s.1.beq q.1)) then .req (O.pr fun _ => ds = res) (outsP O.pr os m 0 (.ret ())) else .fail).wpU (get σ) [] fun _ _ => True
/-- How the condition of a function that writes through pointers ends. -/
def finP (T : Tab) (O : Ops) (ts : List TypeId) (rvs : List ResultVar) (m : List (Nat × List H)) (res : List DV) (os : Nat → List H) : Ex → VS → Prop
  | .normal, σ => vretP T O ts rvs m σ res os
  | .ret, σ => vretP T O ts rvs m σ res os
  | .exit _, _ => False

section
variable {P : Program} {T : Tab} {cx : Cx} {G : Gh} {g : Gm} {a : Act} {w : World}

/-- THE CONTRACT of a function that only reads its arguments, out of its condition. -/
theorem ctr_of (hT : TabOk P T) {Φ : Type} {F0 : Φ} {ctF : Φ → CT} {mtF : Φ → MT} {ptF : Φ → PT} {ntF : Φ → NT} {otF : Φ → OT} (hct : CTok P (ctF F0)) (hmt : MTok P (mtF F0)) (hpt : PTok P (ptF F0)) (hnw : NTok P (ntF F0)) (hot : OTok P (otF F0)) (hm : P.follows .mixedOrders = true) {f : FuncId} {fn : Func} {ds res : List DV} (n : Nat) (c : Code) (ts : List TypeId) (rvs : List ResultVar)
    (hf : P.funcs[f]? = some fn) (hb : fn.body = some c) (hnt : fn.ntmps = n) (hts : fn.resultTypes.toList = ts) (hrv : fn.results.toList = rvs) (hn : Nat.ble ds.length n = true)
    (h : ∀ O r F, O = stdO → r = res → F = F0 → vwpO T O ⟨ctF F, mtF F, ptF F, ntF F, otF F⟩ n [] c (finQ T O ts rvs r) (initV 0 ds)) : Ctr P f ds res := by
  subst hnt hts hrv
  replace h := h stdO res F0 rfl rfl rfl
  replace hn := Nat.le_of_ble_eq_true hn
  intro w vs hargs
  refine calls_of_wp hf hb ?_
  refine Code.wp_mono ?_ (vwpO_sound (cx := ⟨fn.ntmps, w, fun _ => True, fun _ => undef, fun _ => none, fun _ => 0, fun _ => True⟩) hT (ct := ⟨ctF F0, mtF F0, ptF F0, ntF F0, otF F0⟩) ⟨hct, hmt, hpt, hnw, hot⟩ hm rfl (an := []) (fun r x e => by cases e) c _ _ _ w h (init_sim fn.ntmps w ds vs hargs hn))
  rintro e a' w' ⟨ex, σ', rfl, hq', G, hS⟩
  have hq : vretO T stdO fn.resultTypes.toList fn.results.toList σ' res := by
    cases ex with
    | normal => exact hq'
    | ret => exact hq'
    | exit i => exact hq'.elim
  have hex : ex = .normal ∨ ex = .ret := by
    cases ex with
    | normal => exact .inl rfl
    | ret => exact .inr rfl
    | exit i => exact hq'.elim
  unfold vretO at hq
  obtain ⟨ls, u, t, h1, _⟩ := Rd.wpU_runs hq
  obtain ⟨ds', vs', srcs, S, ls', k1, k2, k3, k4, k5⟩ := resDs_sound hS _ _ _ _ _ (resDsO_ref hT (fun _ _ _ h => h) h1)
  split at k5
  case isFalse => exact k5.elim
  rename_i hd
  simp only [Rd.Runs] at k5
  have hres0 : ds' = res := k5.1
  subst hres0
  obtain ⟨v, hrun, hres⟩ := res_value k1 k2
  have hfresh : ∀ b ∈ S, w.heap.size ≤ b ∧ Unf w' b := by
    intro b hb
    obtain ⟨u, r, j, m1, m2⟩ := k4 b hb
    refine ⟨?_, u⟩
    rcases Nat.lt_or_ge b w.heap.size with hlt | hge
    · rcases hS.frow b hlt trivial with e | e <;> rw [m2] at e <;> cases e
    · exact hge
  have fin : a'.defers = [] ∧ ∃ v, (results fn a'.tmps).run P w' = .ok v w' ∧ ∃ v' S, Ending.returned v = .returned v' ∧ RdRes w' ds' v' S ∧ S.Nodup ∧ (∀ b ∈ S, w.heap.size ≤ b ∧ Unf w' b) ∧ Same (fun _ => True) w w' :=
    ⟨hS.defers, _, hrun, _, S, rfl, hres, k3 hd, hfresh, hS.frame⟩
  rcases hex with rfl | rfl
  · exact fin
  · exact fin


/-- THE CONTRACT of a function that writes into the rows of its arguments, out of its condition. -/
theorem mctr_of (hT : TabOk P T) {Φ : Type} {F0 : Φ} {ctF : Φ → CT} {mtF : Φ → MT} {ptF : Φ → PT} {ntF : Φ → NT} {otF : Φ → OT} (hct : CTok P (ctF F0)) (hmt : MTok P (mtF F0)) (hpt : PTok P (ptF F0)) (hnw : NTok P (ntF F0)) (hot : OTok P (otF F0)) (hm : P.follows .mixedOrders = true) {f : FuncId} {fn : Func} {ds res : List DV} {outs : List L} (n : Nat) (c : Code) (ts : List TypeId) (rvs : List ResultVar) (locs : List (Nat × Nat))
    (hf : P.funcs[f]? = some fn) (hb : fn.body = some c) (hnt : fn.ntmps = n) (hts : fn.resultTypes.toList = ts) (hrv : fn.results.toList = rvs) (hn : Nat.ble ds.length n = true) (hlo : (ds.flatMap fun d => slL (dvLeaves d)).length = outs.length) (hlo2 : locs.length = outs.length)
    (h : ∀ O r os F, O = stdO → r = res → os = (fun i => outs.getD i .g) → F = F0 → vwpO T O ⟨ctF F, mtF F, ptF F, ntF F, otF F⟩ n [] c (finM T O ts rvs locs r os) (initM O ds)) : MCtr P f ds outs res := by
  subst hnt hts hrv
  replace h := h stdO res _ F0 rfl rfl rfl rfl
  replace hn := Nat.le_of_ble_eq_true hn
  intro w vs S hr hnd hunf
  refine calls_of_wp hf hb ?_
  refine Code.wp_mono ?_ (vwpO_sound (cx := ⟨fn.ntmps, w, fun b => b ∉ S, fun i => (argVals ds vs).getD i undef, fun _ => none, fun _ => 0, fun _ => True⟩) hT (ct := ⟨ctF F0, mtF F0, ptF F0, ntF F0, otF F0⟩) ⟨hct, hmt, hpt, hnw, hot⟩ hm rfl (an := []) (fun r x e => by cases e) c _ _ _ w h (initM_sim fn.ntmps w ds vs S hr hnd hunf hn))
  rintro e a' w' ⟨ex, σ', rfl, hq', G, hS⟩
  have hq : vretM T stdO fn.resultTypes.toList fn.results.toList locs σ' res (fun i => outs.getD i .g) := by
    cases ex with
    | normal => exact hq'
    | ret => exact hq'
    | exit i => exact hq'.elim
  have hex : ex = .normal ∨ ex = .ret := by
    cases ex with
    | normal => exact .inl rfl
    | ret => exact .inr rfl
    | exit i => exact hq'.elim
  unfold vretM at hq
  obtain ⟨ls, u, t, h1, _⟩ := Rd.wpU_runs hq
  obtain ⟨ds', vs', srcs, Sr, ls', k1, k2, k3, k4, k5⟩ := resDs_sound hS _ _ _ _ _ (resDsO_ref hT (fun _ _ _ h => h) h1)
  split at k5
  case isFalse => exact k5.elim
  rename_i hd
  obtain ⟨hres0, k5⟩ := k5
  have hres0 : ds' = res := hres0
  subst hres0
  obtain ⟨d1, d2, d3⟩ := distinctP_append hd
  obtain ⟨o1, o2⟩ := outsR_sound hS locs 0 _ _ k5
  rw [hlo2] at o2
  have houts : (List.range' 0 outs.length).map (fun i => outs.getD i .g) = outs := by
    apply List.ext_getElem?
    intro i
    rw [List.getElem?_map]
    by_cases c : i < outs.length
    · rw [List.getElem?_range' c]
      simp [List.getD, c]
    · rw [List.getElem?_eq_none (by simp; omega), List.getElem?_eq_none (by omega)]; rfl
  rw [houts] at o2
  obtain ⟨f1, f2⟩ := fpsOf_nodup hS d2 o1
  have hanc : (List.range' 0 outs.length).map (fun i => (argVals ds vs).getD i undef) = argVals ds vs := by
    have hl := argVals_length hr
    rw [hlo] at hl
    rw [← hl]
    apply List.ext_getElem?
    intro i
    rw [List.getElem?_map]
    by_cases c : i < (argVals ds vs).length
    · rw [List.getElem?_range' c]
      simp [List.getD, c]
    · rw [List.getElem?_eq_none (by simp; omega), List.getElem?_eq_none (by omega)]; rfl
  have o2 : RdRec w' outs (argVals ds vs) (fpsOf G locs) := by rw [← hanc]; exact o2
  obtain ⟨v, hrun, hres⟩ := res_value k1 k2
  have tokL : ∀ b ∈ fpsOf G locs, Unf w' b ∧ ∃ r j, (r, j) ∈ locs ∧ G.ow b = some (.leaf r j) := by
    intro b hb
    obtain ⟨p, hp, hbp⟩ := fpsOf_mem hb
    obtain ⟨h, sz, es, e1, e2⟩ := o1 p hp
    have := hS.hok (gl_some.2 e1)
    simp only [HOk, e2] at this
    exact ⟨(this.2.2 b hbp).2, p.1, p.2, hp, (this.2.2 b hbp).1⟩
  have own : ∀ b r j, Unf w' b → G.ow b = some (.leaf r j) → Unf w' b ∧ (w.heap.size ≤ b ∨ b ∈ S) := by
    intro b r j hu ht
    refine ⟨hu, ?_⟩
    rcases Nat.lt_or_ge b w.heap.size with hlt | hge
    · by_cases c : b ∈ S
      · exact .inr c
      · rcases hS.frow b hlt c with e | e <;> rw [ht] at e <;> cases e
    · exact .inl hge
  have fin : a'.defers = [] ∧ ∃ v, (results fn a'.tmps).run P w' = .ok v w' ∧ ∃ v' Sr S', Ending.returned v = .returned v' ∧ RdRes w' ds' v' Sr ∧ RdRec w' outs (argVals ds vs) S' ∧ (Sr ++ S').Nodup ∧ (∀ b ∈ Sr ++ S', Unf w' b ∧ (w.heap.size ≤ b ∨ b ∈ S)) ∧ Same (fun b => b ∉ S) w w' := by
    refine ⟨hS.defers, _, hrun, _, Sr, fpsOf G locs, rfl, hres, o2, ?_, ?_, hS.frame⟩
    · refine List.nodup_append.2 ⟨k3 d1, f1, fun x hx y hy e => ?_⟩
      subst e
      obtain ⟨_, r, j, m1, m2⟩ := k4 x hx
      obtain ⟨_, r', j', m3, m4⟩ := tokL x hy
      rw [m2] at m4; cases m4
      exact d3 _ m1 m3
    · intro b hb
      rcases List.mem_append.1 hb with q | q
      · obtain ⟨hu, r, j, _, m2⟩ := k4 b q; exact own b r j hu m2
      · obtain ⟨hu, r, j, _, m2⟩ := tokL b q; exact own b r j hu m2
  rcases hex with rfl | rfl
  · exact fin
  · exact fin


theorem outLv_sound {α : Type} {r : Nat} : ∀ (hs : List H) (j : Nat) (k : List H → Rd α) (ls : List Loc) (out : α), (outLv prS r j hs k).Runs g ls out →
    ∃ cs ls', (k cs).Runs g ls' out ∧ cs.length = hs.length ∧ ∀ (i : Nat) c, cs[i]? = some c → ∃ hv, g (.leaf r (j + i)) = some (.h hv) ∧ hv.c = c ∧ (match c with
      | .own _ => True
      | .ro l => hs[i]? = some (.ro l) ∧ hv.org = some (r * 1000 + (j + i))
      | .gone => False)
  | [], j, k, ls, out, h => ⟨[], ls, h, rfl, fun i c e => by simp at e⟩
  | h0 :: hs, j, k, ls, out, h => by
    obtain ⟨hv, ls2, _, q2, hk⟩ := rdH_sound (k := fun hh => match hh.c with
      | .own l => outLv prS r (j + 1) hs fun cs => k (.own l :: cs)
      | .ro l => match (generalizing := false) h0 with
        | .ro l0 => match hh.org with
          | some i => if Nat.beq i (r * 1000 + j) then .req (prS fun _ => l = l0) (outLv prS r (j + 1) hs fun cs => k (.ro l0 :: cs)) else .fail
          | none => .fail
        | _ => .fail
      | .gone => .fail) h
    cases hc : hv.c with
    | gone => simp [hc, Rd.Runs] at hk
    | own l =>
      simp only [hc] at hk
      obtain ⟨cs, ls3, e1, e2, e3⟩ := outLv_sound hs (j + 1) _ _ _ hk
      refine ⟨_, ls3, e1, by simp [e2], fun i c e => ?_⟩
      cases i with
      | zero => simp at e; subst e; exact ⟨hv, q2, hc, trivial⟩
      | succ i =>
        simp at e
        obtain ⟨hv', k1, k2, k3⟩ := e3 i c e
        refine ⟨hv', by rw [show j + (i + 1) = j + 1 + i from by omega]; exact k1, k2, ?_⟩
        cases c with
        | own l => trivial
        | ro l => exact ⟨by simpa using k3.1, by rw [show j + (i + 1) = j + 1 + i from by omega]; exact k3.2⟩
        | gone => exact k3
    | ro l =>
      simp only [hc] at hk
      cases h0 with
      | own l0 => exact hk.elim
      | gone => exact hk.elim
      | ro l0 =>
        simp only at hk
        cases ho : hv.org with
        | none => simp [ho, Rd.Runs] at hk
        | some i0 =>
          simp only [ho] at hk
          split at hk
          · rename_i hb
            have hi := Nat.eq_of_beq_eq_true hb
            obtain ⟨hl, hk⟩ := hk
            have hl : l = l0 := hl
            subst hl hi
            obtain ⟨cs, ls3, e1, e2, e3⟩ := outLv_sound hs (j + 1) _ _ _ hk
            refine ⟨_, ls3, e1, by simp [e2], fun i c e => ?_⟩
            cases i with
            | zero => simp at e; subst e; exact ⟨hv, q2, hc, by simp, ho⟩
            | succ i =>
              simp at e
              obtain ⟨hv', k1, k2, k3⟩ := e3 i c e
              refine ⟨hv', by rw [show j + (i + 1) = j + 1 + i from by omega]; exact k1, k2, ?_⟩
              cases c with
              | own l => trivial
              | ro l => exact ⟨by simpa using k3.1, by rw [show j + (i + 1) = j + 1 + i from by omega]; exact k3.2⟩
              | gone => exact k3
          · exact hk.elim
theorem outsP_sound {α : Type} {os : Nat → List H} : ∀ (m : List (Nat × List H)) (i : Nat) (k : Rd α) (ls : List Loc) (out : α), (outsP prS os m i k).Runs g ls out →
    ∀ (n r : Nat) hs, m[n]? = some (r, hs) → (os (i + n)).length = hs.length ∧ ∀ (j : Nat) c, (os (i + n))[j]? = some c → ∃ hv, g (.leaf r j) = some (.h hv) ∧ hv.c = c ∧ (match c with
      | .own _ => True
      | .ro l => hs[j]? = some (.ro l) ∧ hv.org = some (r * 1000 + j)
      | .gone => False)
  | [], i, k, ls, out, h => fun n r hs e => by simp at e
  | (r0, hs0) :: m, i, k, ls, out, h => by
    obtain ⟨cs, ls2, h1, h2, h3⟩ := outLv_sound _ _ _ _ _ h
    obtain ⟨he, h1⟩ := h1
    have he : cs = os i := he
    intro n r hs e
    cases n with
    | zero =>
      simp at e; obtain ⟨rfl, rfl⟩ := e
      rw [Nat.add_zero, ← he]
      refine ⟨h2, fun j c hc => ?_⟩
      have := h3 j c hc
      simpa using this
    | succ n =>
      simp at e
      have := outsP_sound m (i + 1) k _ _ h1 n r hs e
      rw [show i + (n + 1) = i + 1 + n from by omega]; exact this
theorem mpL_of {w : World} {ok : Nat → Prop} : ∀ {ds : List DV} {vs : List Value} {ps : List PArg} {p k : Nat} {q : PArg}, PArgs w ok ds vs ps → ps[k]? = some q → ∃ r, (mpL p ds)[k]? = some (r, q.hs)
  | [], vs, ps, p, k, q, h, e => by simp only [PArgs] at h; rw [h.2] at e; simp at e
  | d :: ds, vs, ps, p, k, q, h, e => by
    cases d with
    | mp hs =>
      obtain ⟨p0, ps', vs', rfl, rfl, e0, h⟩ := h
      cases k with
      | zero => simp at e; subst e; exact ⟨p, by simp [mpL, e0]⟩
      | succ k => simp at e; obtain ⟨r, hr⟩ := mpL_of (p := p + 1) h e; exact ⟨r, by simpa [mpL] using hr⟩
    | one l => obtain ⟨v, vs', S, rfl, _, _, h⟩ := h; exact mpL_of (p := p + 1) h e
    | agg l => obtain ⟨v, vs', S, rfl, _, _, h⟩ := h; exact mpL_of (p := p + 1) h e
    | ptr l => obtain ⟨v, vs', S, rfl, _, _, h⟩ := h; exact mpL_of (p := p + 1) h e
    | fn f l => obtain ⟨v, vs', S, rfl, _, _, h⟩ := h; exact mpL_of (p := p + 1) h e

open Classical in
/-- **THE CONTRACT of a function that writes through its pointers, out of its condition.** -/
theorem pctr_of (hT : TabOk P T) {Φ : Type} {F0 : Φ} {ctF : Φ → CT} {mtF : Φ → MT} {ptF : Φ → PT} {ntF : Φ → NT} {otF : Φ → OT} (hct : CTok P (ctF F0)) (hmt : MTok P (mtF F0)) (hpt : PTok P (ptF F0)) (hnw : NTok P (ntF F0)) (hot : OTok P (otF F0)) (hm : P.follows .mixedOrders = true) {f : FuncId} {fn : Func} {ds res : List DV} {outs : List (List H)} (n : Nat) (c : Code) (ts : List TypeId) (rvs : List ResultVar)
    (hf : P.funcs[f]? = some fn) (hb : fn.body = some c) (hnt : fn.ntmps = n) (hts : fn.resultTypes.toList = ts) (hrv : fn.results.toList = rvs) (hn : Nat.ble ds.length n = true) (hlo : (mpL 0 ds).length = outs.length) (hl0 : (mpL 0 ds).all (fun q => q.2.length.ble 999) = true)
    (h : ∀ O r os F, O = stdO → r = res → os = (fun i => outs.getD i []) → F = F0 → vwpO T O ⟨ctF F, mtF F, ptF F, ntF F, otF F⟩ n ((mpL 0 ds).map (·.1)) c (finP T O ts rvs (mpL 0 ds) r os) (initPs 0 ds)) : PCtr P f ds outs res := by
  subst hnt hts hrv
  replace h := h stdO res _ F0 rfl rfl rfl rfl
  replace hn := Nat.le_of_ble_eq_true hn
  intro w vs ps hpre
  have ix := fun {r q} => pAt_ix (p := 0) (r := r) (q := q) hpre.args
  have hlt : ∀ {r q}, pAt 0 ds ps r = some q → q.hs.length ≤ 999 := by
    intro r q e
    obtain ⟨k, e1, _⟩ := ix.1 e
    have := List.all_eq_true.1 hl0 _ (List.mem_of_getElem? e1)
    exact Nat.le_of_ble_eq_true this
  let anc : Nat → Value := fun i => ((pAt 0 ds ps (i / 1000)).map fun q => q.val (i % 1000)).getD undef
  have hanc : ∀ r q j l, pAt 0 ds ps r = some q → q.hs[j]? = some (.ro l) → anc (r * 1000 + j) = q.val j := by
    intro r q j l e e1
    have h1 := (List.getElem?_eq_some_iff.1 e1).1
    have h2 := hlt e
    have h3 : (r * 1000 + j) / 1000 = r := by omega
    have h4 : (r * 1000 + j) % 1000 = j := by omega
    simp only [anc, h3, h4, e, Option.map_some, Option.getD_some]
  refine calls_of_wp hf hb ?_
  have hini := initP_sim fn.ntmps w ds vs ps hpre hn anc hanc
  refine Code.wp_mono ?_ (vwpO_sound (cx := ⟨fn.ntmps, w, fun b => ¬ OwnB ps b ∧ ¬ PtrB ps b, anc, fun r => (pAt 0 ds ps r).map fun (q : PArg) => (q.b, q.off), fun r => ((pAt 0 ds ps r).map fun (q : PArg) => q.hs.length).getD 0, fun _ => True⟩) hT (ct := ⟨ctF F0, mtF F0, ptF F0, ntF F0, otF F0⟩) ⟨hct, hmt, hpt, hnw, hot⟩ hm rfl (an := (mpL 0 ds).map (·.1)) (fun r x e => by
    cases e0 : pAt 0 ds ps r with
    | none => simp [e0] at e
    | some q => obtain ⟨k, e1, _⟩ := ix.1 e0; exact List.mem_map.2 ⟨_, List.mem_of_getElem? e1, rfl⟩) c _ _ _ w h hini)
  rintro e a' w' ⟨ex, σ', rfl, hq', G, hS⟩
  have hq : vretP T stdO fn.resultTypes.toList fn.results.toList (mpL 0 ds) σ' res (fun i => outs.getD i []) := by
    cases ex with
    | normal => exact hq'
    | ret => exact hq'
    | exit i => exact hq'.elim
  have hex : ex = .normal ∨ ex = .ret := by
    cases ex with
    | normal => exact .inl rfl
    | ret => exact .inr rfl
    | exit i => exact hq'.elim
  unfold vretP at hq
  obtain ⟨ls, u, t, h1, _⟩ := Rd.wpU_runs hq
  obtain ⟨ds', vs', srcs, Sr, ls', k1, k2, k3, k4, k5⟩ := resDs_sound hS _ _ _ _ _ (resDsO_ref hT (fun _ _ _ h => h) h1)
  split at k5
  case isFalse => exact k5.elim
  rename_i hd
  simp only [Bool.and_eq_true] at hd
  obtain ⟨hd1, hd2⟩ := hd
  obtain ⟨hres0, k5⟩ := k5
  have hres0 : ds' = res := hres0
  subst hres0
  have o1 := outsP_sound _ _ _ _ _ k5
  obtain ⟨v, hrun, hres⟩ := res_value k1 k2
  -- the pointers behind the call
  have plen : ps.length = outs.length := by
    rw [← hlo]
    have key : ∀ {ds : List DV} {vs : List Value} {ps : List PArg} {p : Nat} {ok : Nat → Prop}, PArgs w ok ds vs ps → ps.length = (mpL p ds).length := by
      intro ds
      induction ds with
      | nil => intro vs ps p ok h; simp only [PArgs] at h; simp [h.2, mpL]
      | cons d ds ih =>
        intro vs ps p ok h
        cases d with
        | mp hs => obtain ⟨p0, ps', vs', rfl, rfl, _, h⟩ := h; simp [mpL, ih (p := p + 1) h]
        | one l => obtain ⟨v, vs', S, rfl, _, _, h⟩ := h; exact ih (p := p + 1) h
        | agg l => obtain ⟨v, vs', S, rfl, _, _, h⟩ := h; exact ih (p := p + 1) h
        | ptr l => obtain ⟨v, vs', S, rfl, _, _, h⟩ := h; exact ih (p := p + 1) h
        | fn f l => obtain ⟨v, vs', S, rfl, _, _, h⟩ := h; exact ih (p := p + 1) h
    exact key hpre.args
  let pst : Nat → PArg := fun k =>
    { b := (ps.getD k ⟨0, 0, [], fun _ => undef, fun _ => []⟩).b, off := (ps.getD k ⟨0, 0, [], fun _ => undef, fun _ => []⟩).off, hs := outs.getD k [],
      val := fun j => G.val ((mpL 0 ds).getD k (0, [])).1 j,
      fp := fun j => match (outs.getD k [])[j]? with
        | some (.own _) => G.fp ((mpL 0 ds).getD k (0, [])).1 j
        | _ => (ps.getD k ⟨0, 0, [], fun _ => undef, fun _ => []⟩).fp j }
  have info : ∀ (k : Nat) q', ((List.range ps.length).map pst)[k]? = some q' → ∃ q r, ps[k]? = some q ∧ (mpL 0 ds)[k]? = some (r, q.hs) ∧ pAt 0 ds ps r = some q ∧ q' = pst k ∧ q'.b = q.b ∧ q'.off = q.off ∧ outs[k]? = some q'.hs ∧ q'.hs.length = q.hs.length ∧ (∀ j, q'.val j = G.val r j) ∧ (∀ j l, q'.hs[j]? = some (.own l) → q'.fp j = G.fp r j) ∧
      ∀ (j : Nat) c, q'.hs[j]? = some c → ∃ hv, get σ' (.leaf r j) = some (.h hv) ∧ hv.c = c ∧ (match c with
        | .own _ => True
        | .ro l => q.hs[j]? = some (.ro l) ∧ hv.org = some (r * 1000 + j)
        | .gone => False) := by
    intro k q' e
    rw [List.getElem?_map, Option.map_eq_some_iff] at e
    obtain ⟨k', e1, rfl⟩ := e
    obtain ⟨hk, rfl⟩ := List.getElem?_eq_some_iff.1 e1
    simp only [List.length_range] at hk
    simp only [List.getElem_range]
    have hq : ps[k]? = some ps[k] := List.getElem?_eq_getElem hk
    obtain ⟨r, hr⟩ := mpL_of (p := 0) hpre.args hq
    have hpa : pAt 0 ds ps r = some ps[k] := ix.2 ⟨k, hr, hq⟩
    have hout : outs[k]? = some outs[k] := List.getElem?_eq_getElem (by omega)
    have g1 : ps.getD k ⟨0, 0, [], fun _ => undef, fun _ => []⟩ = ps[k] := by simp [List.getD, hq]
    have g2 : outs.getD k [] = outs[k] := by simp [List.getD, hout]
    have g3 : (mpL 0 ds).getD k (0, []) = (r, ps[k].hs) := by simp [List.getD, hr]
    obtain ⟨m1, m2⟩ := o1 k r _ hr
    rw [Nat.zero_add] at m1 m2
    refine ⟨ps[k], r, hq, hr, hpa, trivial, by simp only [pst, g1], by simp only [pst, g1], by simp only [pst, g2]; exact hout, by simp only [pst]; exact m1, fun j => by simp only [pst, g3], fun j l e => ?_, fun j c e => ?_⟩
    · simp only [pst] at e ⊢
      rw [e]; simp only [g3]
    · exact m2 j c e
  have meta_ : ∀ {r q}, pAt 0 ds ps r = some q → G.loc r = some (q.b, q.off) ∧ get σ' (.meta_ r) = some (.m q.hs.length true) := by
    intro r q e
    have := hS.aloc r (q.b, q.off) (by simp [e])
    simpa [e] using this
  have mem : ∀ q' ∈ (List.range ps.length).map pst, ∃ k : Nat, ((List.range ps.length).map pst)[k]? = some q' := fun q' hq => by
    obtain ⟨k, hk⟩ := List.getElem?_of_mem hq; exact ⟨k, hk⟩
  have ownTok : ∀ b, OwnB ((List.range ps.length).map pst) b → ∃ r j q, pAt 0 ds ps r = some q ∧ G.ow b = some (.leaf r j) ∧ Unf w' b := by
    rintro b ⟨q', hq, j, l, e1, e2⟩
    obtain ⟨k, hk⟩ := mem q' hq
    obtain ⟨q, r, i1, i2, i3, i4, i5, i6, i7, i8, i9, i10, i11⟩ := info k q' hk
    obtain ⟨hv, m1, m2, _⟩ := i11 j _ e1
    rw [i10 j l e1] at e2
    have := hS.hok (gl_some.2 m1)
    simp only [HOk, m2] at this
    exact ⟨r, j, q, i3, this.2.2 b e2⟩
  have ptrTok : ∀ b, PtrB ps b → ∃ k, G.ow b = some (.box k) := by
    rintro b ⟨q, hq, rfl⟩
    obtain ⟨k, hk⟩ := List.getElem?_of_mem hq
    obtain ⟨r, hr⟩ := mpL_of (p := 0) hpre.args hk
    obtain ⟨f1, f2⟩ := meta_ (ix.2 ⟨k, hr, hk⟩)
    obtain ⟨b', off', cur, ty, z1, z2, _⟩ := hS.boxes r _ f2
    rw [f1] at z1; cases z1
    exact ⟨_, z2⟩
  have own : ∀ b r j, Unf w' b → G.ow b = some (.leaf r j) → Unf w' b ∧ (w.heap.size ≤ b ∨ OwnB ps b) := by
    intro b r j hu ht
    refine ⟨hu, ?_⟩
    rcases Nat.lt_or_ge b w.heap.size with hlt | hge
    · by_cases c1 : OwnB ps b
      · exact .inr c1
      · by_cases c2 : PtrB ps b
        · obtain ⟨k, hk⟩ := ptrTok b c2
          rw [hk] at ht; cases ht
        · rcases hS.frow b hlt ⟨c1, c2⟩ with e | e <;> rw [ht] at e <;> cases e
    · exact .inl hge
  have post : PPost w ps outs w' ((List.range ps.length).map pst) Sr := by
    refine ⟨by simp, ?_, ?_, ?_, ?_, ?_, ?_, ⟨k3 hd1, ?_⟩, ?_, hS.frame, ?_⟩
    · intro k p p' hp hp'
      obtain ⟨q, r, i1, i2, i3, i4, i5, i6, i7, i8, _⟩ := info k p' hp'
      rw [hp] at i1; cases i1
      exact ⟨i5, i6, i7, i8⟩
    · intro q' hq
      obtain ⟨k, hk⟩ := mem q' hq
      obtain ⟨q, r, i1, i2, i3, i4, i5, i6, i7, i8, i9, _⟩ := info k q' hk
      obtain ⟨f1, f2⟩ := meta_ i3
      obtain ⟨b', off', cur, ty, z1, z2, z3, z4, z5⟩ := hS.boxes r _ f2
      rw [f1] at z1; cases z1
      exact ⟨cur, ty, by rw [i5]; exact z3, fun j hj => by rw [i6, i9]; exact z5 j (by omega)⟩
    · intro q' hq j l e
      obtain ⟨k, hk⟩ := mem q' hq
      obtain ⟨q, r, i1, i2, i3, i4, i5, i6, i7, i8, i9, i10, i11⟩ := info k q' hk
      obtain ⟨hv, m1, m2, _⟩ := i11 j _ e
      have := hS.hok (gl_some.2 m1)
      simp only [HOk, m2] at this
      rw [i9, i10 j l e]; exact ⟨this.1, this.2.1⟩
    · intro k p p' j l hp hp' e
      obtain ⟨q, r, i1, i2, i3, i4, i5, i6, i7, i8, i9, i10, i11⟩ := info k p' hp'
      rw [hp] at i1; cases i1
      obtain ⟨hv, m1, m2, m3, m4⟩ := i11 j _ e
      refine ⟨m3, ?_⟩
      rw [i9, hS.anc r j hv (gl_some.2 m1) _ m4 ⟨l, .inr m2⟩]
      exact hanc r p j l i3 m3
    · intro q' hq j e
      obtain ⟨k, hk⟩ := mem q' hq
      obtain ⟨q, r, i1, i2, i3, i4, i5, i6, i7, i8, i9, i10, i11⟩ := info k q' hk
      obtain ⟨hv, m1, m2, m3⟩ := i11 j _ e
      exact m3
    · intro k j k' j' p p' l l' hp hp' e e' hne b hb hb'
      obtain ⟨q, r, i1, i2, i3, i4, i5, i6, i7, i8, i9, i10, i11⟩ := info k p hp
      obtain ⟨q2, r2, i1', i2', i3', i4', i5', i6', i7', i8', i9', i10', i11'⟩ := info k' p' hp'
      obtain ⟨hv, m1, m2, _⟩ := i11 j _ e
      obtain ⟨hv', m1', m2', _⟩ := i11' j' _ e'
      rw [i10 j l e] at hb
      rw [i10' j' l' e'] at hb'
      have t1 := hS.hok (gl_some.2 m1)
      simp only [HOk, m2] at t1
      have t2 := hS.hok (gl_some.2 m1')
      simp only [HOk, m2'] at t2
      have u1 := (t1.2.2 b hb).1
      have u2 := (t2.2.2 b hb').1
      rw [u1] at u2; cases u2
      have hkk : k = k' := by
        rw [i3] at i3'; cases i3'
        by_cases c : k = k'
        · exact c
        · have := hpre.sep k k' q q c i1 i1' rfl
          have := (List.getElem?_eq_some_iff.1 e).1
          omega
      subst hkk
      exact hne rfl
    · intro b hb ho
      obtain ⟨r, j, q, e1, e2, _⟩ := ownTok b ho
      obtain ⟨_, r', j', m1, m2⟩ := k4 b hb
      rw [m2] at e2; cases e2
      obtain ⟨k, e3, _⟩ := ix.1 e1
      have := List.all_eq_true.1 (List.all_eq_true.1 hd2 _ m1) _ (List.mem_of_getElem? e3)
      simp at this
    · intro b hb
      rcases hb with hb | hb
      · obtain ⟨hu, r, j, _, m2⟩ := k4 b hb; exact own b r j hu m2
      · obtain ⟨r, j, q, _, m2, hu⟩ := ownTok b hb; exact own b r j hu m2
    · rintro b ⟨q, hq, rfl⟩
      obtain ⟨k, hk⟩ := List.getElem?_of_mem hq
      obtain ⟨r, hr⟩ := mpL_of (p := 0) hpre.args hk
      have hpa := ix.2 ⟨k, hr, hk⟩
      obtain ⟨c0, c1, ty, z1, z2, z3, z4⟩ := hS.afr r q.b q.off (by simp [hpa])
      refine ⟨c0, c1, ty, z1, z2, z3, fun i hi => z4 i (fun r' off' e => ?_)⟩
      cases e0 : pAt 0 ds ps r' with
      | none => simp [e0] at e
      | some q2 =>
        simp [e0] at e ⊢
        obtain ⟨e1, rfl⟩ := e
        obtain ⟨k2, _, hk2⟩ := ix.1 e0
        exact hi q2 (List.mem_of_getElem? hk2) e1
  have fin : a'.defers = [] ∧ ∃ v, (results fn a'.tmps).run P w' = .ok v w' ∧ ∃ v' Sr ps', Ending.returned v = .returned v' ∧ RdRes w' ds' v' Sr ∧ PPost w ps outs w' ps' Sr :=
    ⟨hS.defers, _, hrun, _, Sr, _, rfl, hres, post⟩
  rcases hex with rfl | rfl
  · exact fin
  · exact fin
/-! ### Functions that return a pointer to a new variable -/
def nLeaf {α : Type} (r : Nat) : Nat → Nat → (List H → Rd α) → Rd α
  | _, 0, k => k []
  | j, m + 1, k => rdH r j fun h => match h.c with
    | .own (.v x) => nLeaf r (j + 1) m fun hs => k (.own (.v x) :: hs)
    | .ro l => nLeaf r (j + 1) m fun hs => k (.ro l :: hs)
    | _ => .fail
def vretN (O : Ops) (rvs : List ResultVar) (σ : VS) (hs : List H) : Prop :=
  match rvs with
  | [.tmp t] => ((rdR t fun v => match v with
      | .one (.pt r 0) => .get (.meta_ r) fun
        | some (.m k true) => nLeaf r 0 k fun hs' => .req (O.pr fun _ => hs' = hs) (.ret ())
        | _ => .fail
      | _ => .fail) : Rd Unit).wpU (get σ) [] fun _ _ => True
  | _ => False
def finN (O : Ops) (rvs : List ResultVar) (hs : List H) : Ex → VS → Prop
  | .normal, σ => vretN O rvs σ hs
  | .ret, σ => vretN O rvs σ hs
  | .exit _, _ => False

theorem nLeaf_sound {α : Type} {r : Nat} : ∀ (m j : Nat) (k : List H → Rd α) (ls : List Loc) (out : α), (nLeaf r j m k).Runs g ls out →
    ∃ hs ls', (k hs).Runs g ls' out ∧ hs.length = m ∧ ∀ i h0, hs[i]? = some h0 → ∃ h, gl g r (j + i) = some h ∧ ((∃ x, h.c = .own (.v x) ∧ h0 = .own (.v x)) ∨ ∃ l, h.c = .ro l ∧ h0 = .ro l)
  | 0, j, k, ls, out, h => ⟨[], ls, h, rfl, fun i h0 e => by simp at e⟩
  | m + 1, j, k, ls, out, h => by
    obtain ⟨hv, ls1, hg, _, hq⟩ := rdH_sound (k := fun h => match h.c with
      | .own (.v x) => nLeaf r (j + 1) m fun hs => k (.own (.v x) :: hs)
      | .ro l => nLeaf r (j + 1) m fun hs => k (.ro l :: hs)
      | _ => .fail) h
    have fin : ∀ c : H, ((∃ x, hv.c = .own (.v x) ∧ c = .own (.v x)) ∨ ∃ l, hv.c = .ro l ∧ c = .ro l) → (nLeaf r (j + 1) m fun hs => k (c :: hs)).Runs g ls1 out →
        ∃ hs ls', (k hs).Runs g ls' out ∧ hs.length = m + 1 ∧ ∀ i h0, hs[i]? = some h0 → ∃ h, gl g r (j + i) = some h ∧ ((∃ x, h.c = .own (.v x) ∧ h0 = .own (.v x)) ∨ ∃ l, h.c = .ro l ∧ h0 = .ro l) := by
      intro c hc hq
      obtain ⟨hs, ls', q1, q2, q3⟩ := nLeaf_sound m (j + 1) _ _ _ hq
      refine ⟨c :: hs, ls', q1, by simp [q2], fun i h0 e => ?_⟩
      cases i with
      | zero => simp at e; subst e; exact ⟨hv, by simpa using hg, hc⟩
      | succ i =>
        have := q3 i h0 (by simpa using e)
        rwa [show j + 1 + i = j + (i + 1) from by omega] at this
    cases hc : hv.c with
    | own l =>
      simp only [hc] at hq
      cases l with
      | v x => exact fin _ (.inl ⟨x, hc, rfl⟩) hq
      | _ => exact hq.elim
    | ro l => simp only [hc] at hq; exact fin _ (.inr ⟨l, hc, rfl⟩) hq
    | gone => simp only [hc] at hq; exact hq.elim

/-- THE CONTRACT of a function that returns a pointer to a new variable, out of its condition. -/
theorem nctr_of (hT : TabOk P T) {Φ : Type} {F0 : Φ} {ctF : Φ → CT} {mtF : Φ → MT} {ptF : Φ → PT} {ntF : Φ → NT} {otF : Φ → OT} (hct : CTok P (ctF F0)) (hmt : MTok P (mtF F0)) (hpt : PTok P (ptF F0)) (hnw : NTok P (ntF F0)) (hot : OTok P (otF F0)) (hm : P.follows .mixedOrders = true) {f : FuncId} {fn : Func} {ds : List DV} {res : List H} (n : Nat) (c : Code) (ts : List TypeId) (rvs : List ResultVar)
    (hf : P.funcs[f]? = some fn) (hb : fn.body = some c) (hnt : fn.ntmps = n) (hts : fn.resultTypes.toList = ts) (hrv : fn.results.toList = rvs) (hn : Nat.ble ds.length n = true)
    (h : ∀ O r F, O = stdO → r = res → F = F0 → vwpO T O ⟨ctF F, mtF F, ptF F, ntF F, otF F⟩ n [] c (finN O rvs r) (initV 0 ds)) : NCtr P f ds res := by
  subst hnt hts hrv
  replace h := h stdO res F0 rfl rfl rfl
  replace hn := Nat.le_of_ble_eq_true hn
  intro X w vs hargs
  refine calls_of_wp hf hb ?_
  refine Code.wp_mono ?_ (vwpO_sound (cx := ⟨fn.ntmps, w, fun _ => True, fun _ => undef, fun _ => none, fun _ => 0, X⟩) hT (ct := ⟨ctF F0, mtF F0, ptF F0, ntF F0, otF F0⟩) ⟨hct, hmt, hpt, hnw, hot⟩ hm rfl (an := []) (fun r x e => by cases e) c _ _ _ w h (init_simX X fn.ntmps w ds vs hargs hn))
  rintro e a' w' ⟨ex, σ', rfl, hq', G, hS⟩
  have hq : vretN stdO fn.results.toList σ' res := by
    cases ex with
    | normal => exact hq'
    | ret => exact hq'
    | exit i => exact hq'.elim
  have hex : ex = .normal ∨ ex = .ret := by
    cases ex with
    | normal => exact .inl rfl
    | ret => exact .inr rfl
    | exit i => exact hq'.elim
  unfold vretN at hq
  split at hq
  case h_2 => exact hq.elim
  rename_i t hrv
  obtain ⟨ls, u, tt, h1, _⟩ := Rd.wpU_runs hq
  obtain ⟨v, ls1, hv, hreg, h1⟩ := rdR_sound hS h1
  split at h1
  case h_2 => exact h1.elim
  rename_i r
  obtain ⟨ls2, _, h1⟩ := h1
  simp only at h1
  split at h1
  case h_2 => exact h1.elim
  rename_i k hmeta
  obtain ⟨hs', ls3, h1, hk, hl⟩ := nLeaf_sound k 0 _ _ _ h1
  obtain ⟨h1, _⟩ := h1
  have h1 : hs' = res := h1
  cases h1
  subst hk
  obtain ⟨b, off, cur, ty, f1, f2, f3, f4, f5⟩ := hS.boxes r _ hmeta
  simp only [ROk] at hv
  obtain ⟨b', off', f6, f7⟩ := hv
  rw [f1] at f6; cases f6
  have hrun : (results fn a'.tmps).run P w' = .ok (a'.tmps.getD t undef) w' := by
    rw [results_eq, Array.mapM_eq_mapM_toList (m := Sem), hrv]
    simp [resRun]
  have hcell : ∀ j h, res[j]? = some h → NCell X w' h (G.val r j) := by
    intro j h0 e
    obtain ⟨h, g1, g2⟩ := hl j h0 e
    rw [Nat.zero_add] at g1
    have hok := hS.hok g1
    rcases g2 with ⟨x, q1, rfl⟩ | ⟨l, q1, rfl⟩
    · simp only [HOk, q1] at hok
      obtain ⟨q2, _, _⟩ := hok
      simp only [RdL] at q2
      exact ⟨q2.1, q2.2.1, rfl⟩
    · simp only [HOk, q1] at hok
      obtain ⟨S, q2, q3⟩ := hok
      exact ⟨S, q2, fun c hc => hS.roX c (q3 c hc)⟩
  have fin : a'.defers = [] ∧ ∃ v, (results fn a'.tmps).run P w' = .ok v w' ∧ ∃ b off cur ty, ∃ val : Nat → Value, Ending.returned v = .returned (.pointer (some ⟨b, off, none⟩)) ∧ w.heap.size ≤ b ∧ w'.heap[b]? = some (.cells cur ty (0, 0)) ∧ off + res.length ≤ cur.size ∧
      (∀ j, j < res.length → cur[off + j]? = some (val j)) ∧ (∀ j h, res[j]? = some h → NCell X w' h (val j)) ∧ Same (fun _ => True) w w' :=
    ⟨hS.defers, _, hrun, b, off, cur, ty, G.val r, by rw [f7]; rfl, hS.newb r b off f1 rfl, f3, f4, f5, hcell, hS.frame⟩
  rcases hex with rfl | rfl
  · exact fin
  · exact fin

end
end Go.V

/-
  The value-level condition generator, part 43: what is left of a condition, in plain words.
-/
namespace Go.V

theorem SS : (∀ a b : Int, (cmpI .eql a b = true) ↔ a = b) ∧ (∀ a b : Int, (cmpI .eql a b = false) ↔ a ≠ b) ∧ (∀ a b : Int, (cmpI .neq a b = true) ↔ a ≠ b) ∧ (∀ a b : Int, (cmpI .neq a b = false) ↔ a = b) ∧
    (∀ a b : Int, (cmpI .lss a b = true) ↔ a < b) ∧ (∀ a b : Int, (cmpI .lss a b = false) ↔ b ≤ a) ∧ (∀ a b : Int, (cmpI .leq a b = true) ↔ a ≤ b) ∧ (∀ a b : Int, (cmpI .leq a b = false) ↔ b < a) ∧
    (∀ a b : Int, (cmpI .gtr a b = true) ↔ b < a) ∧ (∀ a b : Int, (cmpI .gtr a b = false) ↔ a ≤ b) ∧ (∀ a b : Int, (cmpI .geq a b = true) ↔ b ≤ a) ∧ (∀ a b : Int, (cmpI .geq a b = false) ↔ a < b) ∧
    (∀ b, (bnI b = true) ↔ b = false) ∧ (∀ b, (bnI b = false) ↔ b = true) ∧ (∀ a b, selI true a b = a) ∧ (∀ a b, selI false a b = b) ∧
    (∀ a b, (bqI .eql a b = true) ↔ a = b) ∧ (∀ a b, (bqI .eql a b = false) ↔ a ≠ b) ∧ (∀ a b, (bqI .neq a b = true) ↔ a ≠ b) ∧ (∀ a b, (bqI .neq a b = false) ↔ a = b) ∧
    (∀ n, ziI n = (n : Int)) ∧ (∀ es, lnI es = es.length) ∧ (∀ f, prI f = f ()) ∧ (∀ n : Nat, Int.ofNat n = (n : Int)) ∧ (∀ a b, catI a b = a ++ b) ∧ (∀ i, nnI i = i.toNat) :=
  ⟨fun _ _ => c_eql_t, fun _ _ => c_eql_f, fun _ _ => c_neq_t, fun _ _ => c_neq_f, fun _ _ => c_lss_t, fun _ _ => c_lss_f, fun _ _ => c_leq_t, fun _ _ => c_leq_f, fun _ _ => c_gtr_t, fun _ _ => c_gtr_f, fun _ _ => c_geq_t, fun _ _ => c_geq_f,
    fun _ => bn_t, fun _ => bn_f, fun _ _ => rfl, fun _ _ => rfl, fun _ _ => bq_eql_t, fun _ _ => bq_eql_f, fun _ _ => bq_neq_t, fun _ _ => bq_neq_f, fun _ => rfl, fun _ => rfl, fun _ => rfl, fun _ => rfl, fun _ _ => rfl, fun _ => rfl⟩
end Go.V

/-
  Trees of data: their size, marks written into all their rows.
-/
namespace Go.V

mutual
def cntL : L → Nat
  | .s _ es => es.length + cntEs es
  | _ => 0
def cntR : (List L) → Nat
  | [] => 0
  | l :: ls => cntL l + cntR ls
def cntEs : List (List L) → Nat
  | [] => 0
  | e :: es => cntR e + cntEs es
end
/-- The size of a row: its elements, and what lies below. -/
def cntE (es : List (List L)) : Nat := es.length + cntEs es
def cntRs : List (List (List L)) → Nat
  | [] => 0
  | r :: rs => cntE r + cntRs rs
def szN0 (rs : List (List (List L))) (left : Int) : Int := if left < cntRs rs then -1 else left - cntRs rs

mutual
/-- Marks from k on; the mark behind. -/
def msL : L → Int → L × Int
  | .v (.int kd _), k => (.v (.int kd k), k + 1)
  | .v (.bool _), k => (.v (.bool (k.tmod 3 == 0)), k + 1)
  | .s sz es, k => (.s sz (msEs es k).1, (msEs es k).2)
  | l, k => (l, k)
def msR : (List L) → Int → (List L) × Int
  | [], k => ([], k)
  | l :: ls, k => ((msL l k).1 :: (msR ls (msL l k).2).1, (msR ls (msL l k).2).2)
def msEs : List (List L) → Int → List (List L) × Int
  | [], k => ([], k)
  | e :: es, k => ((msR e k).1 :: (msEs es (msR e k).2).1, (msEs es (msR e k).2).2)
end
def mkN0 (es : List (List L)) (k : Int) : List (List L) := (msEs es k).1
def kN0 : List (List (List L)) → Int → Int
  | [], k => k
  | r :: rs, k => kN0 rs (msEs r k).2

theorem cntEs_append : ∀ {a b : List (List L)}, cntEs (a ++ b) = cntEs a + cntEs b
  | [], b => by simp [cntEs]
  | e :: a, b => by simp [cntEs, cntEs_append (a := a), Nat.add_assoc]
theorem cntRs_append : ∀ {a b : List (List (List L))}, cntRs (a ++ b) = cntRs a + cntRs b
  | [], b => by simp [cntRs]
  | e :: a, b => by simp [cntRs, cntRs_append (a := a), Nat.add_assoc]
theorem cntRs_one {r : List (List L)} : cntRs [r] = cntE r := by simp [cntRs]
theorem cntEs_at : ∀ {es : List (List L)} {n : Nat} {e : (List L)}, es[n]? = some e → cntEs (es.take n) + cntR e + cntEs (es.drop (n + 1)) = cntEs es
  | [], n, e, h => by simp at h
  | x :: es, 0, e, h => by simp at h; subst h; simp [cntEs]
  | x :: es, n + 1, e, h => by simp at h; have := cntEs_at h; simp [cntEs]; omega
theorem cntR_at : ∀ {ls : (List L)} {j : Nat} {l : L}, ls[j]? = some l → cntL l ≤ cntR ls
  | [], j, l, h => by simp at h
  | x :: ls, 0, l, h => by simp at h; subst h; simp [cntR]
  | x :: ls, j + 1, l, h => by simp at h; have := cntR_at h; simp [cntR]; omega

/-! ### Sizes -/
theorem szN_neg {a : List (List (List L))} {left : Int} : szN0 a left < 0 ↔ left < cntRs a := by
  unfold szN0; split <;> omega
theorem szN_pos {a : List (List (List L))} {left : Int} (h : 0 ≤ szN0 a left) : szN0 a left = left - cntRs a := by
  unfold szN0 at *; split at h
  · omega
  · rename_i c; rw [if_neg c]
theorem szN_app {a b : List (List (List L))} {left : Int} (h : 0 ≤ szN0 a left) : szN0 b (szN0 a left) = szN0 (a ++ b) left := by
  rw [szN_pos h]; unfold szN0; rw [cntRs_append]; split <;> split <;> omega
theorem szN_more {a b : List (List (List L))} {left : Int} (h : szN0 a left < 0) : szN0 (a ++ b) left = -1 := by
  rw [szN_neg] at h; unfold szN0; rw [cntRs_append, if_pos (by omega)]
theorem szN_neg1 {a : List (List (List L))} {left : Int} (h : szN0 a left < 0) : szN0 a left = -1 := by
  rw [szN_neg] at h; unfold szN0; rw [if_pos (by omega)]
theorem szN_le {a : List (List (List L))} {left : Int} (h : 0 ≤ szN0 a left) : szN0 a left ≤ left := by rw [szN_pos h]; omega

/-! ### Marks -/
theorem msEs_append : ∀ {a b : List (List L)} {k : Int}, msEs (a ++ b) k = ((msEs a k).1 ++ (msEs b (msEs a k).2).1, (msEs b (msEs a k).2).2)
  | [], b, k => by simp [msEs]
  | e :: a, b, k => by simp [msEs, msEs_append (a := a)]
theorem kN_app : ∀ {a b : List (List (List L))} {k : Int}, kN0 b (kN0 a k) = kN0 (a ++ b) k
  | [], b, k => rfl
  | r :: a, b, k => by simp only [kN0, List.cons_append]; exact kN_app
theorem kN_one {r : List (List L)} {k : Int} : kN0 [r] k = (msEs r k).2 := rfl
theorem msEs_length : ∀ {es : List (List L)} {k : Int}, (msEs es k).1.length = es.length
  | [], k => rfl
  | e :: es, k => by simp [msEs, msEs_length (es := es)]
theorem msR_length : ∀ {ls : (List L)} {k : Int}, (msR ls k).1.length = ls.length
  | [], k => rfl
  | e :: es, k => by simp [msR, msR_length (ls := es)]
theorem mkN_length {es : List (List L)} {k : Int} : (mkN0 es k).length = es.length := msEs_length
/-- The first n elements marked. -/
def mkTo (es : List (List L)) (k : Int) (n : Nat) : List (List L) := (msEs (es.take n) k).1 ++ es.drop n
def kTo (es : List (List L)) (k : Int) (n : Nat) : Int := (msEs (es.take n) k).2
theorem mkTo_zero {es : List (List L)} {k : Int} : mkTo es k 0 = es := by simp [mkTo, msEs]
theorem kTo_zero {es : List (List L)} {k : Int} : kTo es k 0 = k := by simp [kTo, msEs]
theorem mkTo_all {es : List (List L)} {k : Int} : mkTo es k es.length = mkN0 es k := by simp [mkTo, mkN0]
theorem kTo_all {es : List (List L)} {k : Int} : kTo es k es.length = kN0 [es] k := by simp [kTo, kN0]
theorem mkTo_length {es : List (List L)} {k : Int} {n : Nat} (hn : n ≤ es.length) : (mkTo es k n).length = es.length := by simp [mkTo, msEs_length]; omega
theorem mkTo_getD {es : List (List L)} {k : Int} {n : Nat} (hn : n ≤ es.length) : (mkTo es k n).getD n [] = es.getD n [] := by
  unfold mkTo
  simp only [List.getD_eq_getElem?_getD]
  have hl : (msEs (es.take n) k).1.length = n := by rw [msEs_length, List.length_take]; omega
  rw [List.getElem?_append_right (by omega), hl]
  simp
theorem mkTo_set {es : List (List L)} {k : Int} {n : Nat} (hn : n < es.length) : (mkTo es k n).set n (msR (es.getD n []) (kTo es k n)).1 = mkTo es k (n + 1) := by
  unfold mkTo kTo
  have hl : (msEs (es.take n) k).1.length = n := by rw [msEs_length, List.length_take]; omega
  rw [List.set_append_right _ _ (by omega), hl, getD_take_succ (d := []) hn, msEs_append]
  simp only [Nat.sub_self]
  rw [List.drop_eq_getElem_cons hn, List.set_cons_zero]
  simp [msEs]
theorem kTo_succ {es : List (List L)} {k : Int} {n : Nat} (hn : n < es.length) : kTo es k (n + 1) = (msR (es.getD n []) (kTo es k n)).2 := by
  unfold kTo
  rw [getD_take_succ (d := []) hn, msEs_append]
  simp [msEs]
theorem mkN_at {es : List (List L)} {k : Int} {n : Nat} (hn : n < es.length) : (mkN0 es k).getD n [] = (msR (es.getD n []) (kTo es k n)).1 := by
  have h1 : es = es.take n ++ (es.getD n [] :: es.drop (n + 1)) := by
    conv => lhs; rw [← List.take_append_drop n es, List.drop_eq_getElem_cons hn]
    simp [List.getD, hn]
  unfold mkN0 kTo
  conv => lhs; rw [h1]
  rw [msEs_append]
  simp only [List.getD_eq_getElem?_getD]
  have hl : (msEs (es.take n) k).1.length = n := by rw [msEs_length, List.length_take]; omega
  rw [List.getElem?_append_right (by omega), hl]
  simp [msEs]

mutual
/-- Marks don't change sizes. -/
theorem cntL_mk : ∀ (l : L) (k : Int), cntL (msL l k).1 = cntL l
  | .v x, k => by cases x <;> simp [msL, cntL]
  | .s sz es, k => by simp only [msL, cntL]; rw [msEs_length, cntEs_mk es k]
  | .g, k => by simp [msL, cntL]
  | .m _ _, k => by simp [msL, cntL]
theorem cntR_mk : ∀ (ls : (List L)) (k : Int), cntR (msR ls k).1 = cntR ls
  | [], k => rfl
  | l :: ls, k => by simp only [msR, cntR]; rw [cntL_mk l k, cntR_mk ls _]
theorem cntEs_mk : ∀ (es : List (List L)) (k : Int), cntEs (msEs es k).1 = cntEs es
  | [], k => rfl
  | e :: es, k => by simp only [msEs, cntEs]; rw [cntR_mk e k, cntEs_mk es _]
end
mutual
/-- The mark behind: by the tree alone. -/
theorem msL_k : ∀ (l : L) (k : Int), (msL l k).2 = k + (msL l 0).2
  | .v x, k => by cases x <;> simp [msL]
  | .s sz es, k => by simp only [msL]; exact msEs_k es k
  | .g, k => by simp [msL]
  | .m _ _, k => by simp [msL]
theorem msR_k : ∀ (ls : (List L)) (k : Int), (msR ls k).2 = k + (msR ls 0).2
  | [], k => by simp [msR]
  | l :: ls, k => by
    simp only [msR]
    rw [msR_k ls (msL l k).2, msL_k l k, msR_k ls (msL l 0).2]; omega
theorem msEs_k : ∀ (es : List (List L)) (k : Int), (msEs es k).2 = k + (msEs es 0).2
  | [], k => by simp [msEs]
  | e :: es, k => by
    simp only [msEs]
    rw [msEs_k es (msR e k).2, msR_k e k, msEs_k es (msR e 0).2]; omega
end
mutual
/-- Marked again: the same marks. -/
theorem msL_mk : ∀ (l : L) (k k' : Int), (msL (msL l k).1 k').2 = (msL l k').2
  | .v x, k, k' => by cases x <;> simp [msL]
  | .s sz es, k, k' => by simp only [msL]; exact msEs_mk es k k'
  | .g, k, k' => by simp [msL]
  | .m _ _, k, k' => by simp [msL]
theorem msR_mk : ∀ (ls : (List L)) (k k' : Int), (msR (msR ls k).1 k').2 = (msR ls k').2
  | [], k, k' => rfl
  | l :: ls, k, k' => by simp only [msR]; rw [msR_mk ls _ _, msL_mk l k k']
theorem msEs_mk : ∀ (es : List (List L)) (k k' : Int), (msEs (msEs es k).1 k').2 = (msEs es k').2
  | [], k, k' => rfl
  | e :: es, k, k' => by simp only [msEs]; rw [msEs_mk es _ _, msR_mk e k k']
end
theorem kN_mk {es : List (List L)} {k k' : Int} : kN0 [mkN0 es k] k' = kN0 [es] k' := msEs_mk es k k'
theorem kTo_k {es : List (List L)} {k : Int} {n : Nat} : kTo es k n = k + kTo es 0 n := msEs_k _ _
theorem kN_k : ∀ {rs : List (List (List L))} {k : Int}, kN0 rs k = k + kN0 rs 0
  | [], k => by simp [kN0]
  | r :: rs, k => by simp only [kN0]; rw [kN_k (k := (msEs r k).2), msEs_k r k, kN_k (k := (msEs r 0).2)]; omega
mutual
theorem msL_0 : ∀ (l : L), 0 ≤ (msL l 0).2
  | .v x => by cases x <;> simp [msL]
  | .s sz es => by simp only [msL]; exact msEs_0 es
  | .g => by simp [msL]
  | .m _ _ => by simp [msL]
theorem msR_0 : ∀ (ls : (List L)), 0 ≤ (msR ls 0).2
  | [] => by simp [msR]
  | l :: ls => by simp only [msR]; rw [msR_k]; have := msL_0 l; have := msR_0 ls; omega
theorem msEs_0 : ∀ (es : List (List L)), 0 ≤ (msEs es 0).2
  | [] => by simp [msEs]
  | e :: es => by simp only [msEs]; rw [msEs_k]; have := msR_0 e; have := msEs_0 es; omega
end
theorem kN_0 : ∀ {rs : List (List (List L))}, 0 ≤ kN0 rs 0
  | [] => by simp [kN0]
  | r :: rs => by simp only [kN0]; rw [kN_k]; have := msEs_0 r; have := kN_0 (rs := rs); omega
theorem kTo_mono {es : List (List L)} {n : Nat} (hn : n < es.length) : kTo es 0 n ≤ kTo es 0 (n + 1) := by
  rw [kTo_succ hn, msR_k]; have := msR_0 (es.getD n []); omega
theorem kTo_le {es : List (List L)} : ∀ {m n : Nat}, n ≤ es.length → m ≤ n → kTo es 0 m ≤ kTo es 0 n
  | m, 0, _, h => by rw [show m = 0 from by omega]; exact Int.le_refl _
  | m, n + 1, hn, h => by
    rcases Nat.lt_or_ge m (n + 1) with c | c
    · have := kTo_le (es := es) (m := m) (n := n) (by omega) (by omega)
      have := kTo_mono (es := es) (n := n) (by omega)
      omega
    · rw [show m = n + 1 from by omega]; exact Int.le_refl _

/-! ### Marks are few -/
def wid : Ty → Nat
  | .sl _ => 0
  | _ => 1
mutual
/-- How many marks an element's cells take at most, but for its rows. -/
def mcL : L → Int
  | .s _ es => mcEs es
  | _ => 1
def mcR : (List L) → Int
  | [] => 0
  | l :: ls => mcL l + mcR ls
def mcEs : List (List L) → Int
  | [] => 0
  | e :: es => mcR e + mcEs es
end
mutual
theorem msL_mc : ∀ (l : L), (msL l 0).2 ≤ mcL l
  | .v x => by cases x <;> simp [msL, mcL]
  | .s sz es => by simp only [msL, mcL]; exact msEs_mc es
  | .g => by simp [msL, mcL]
  | .m _ _ => by simp [msL, mcL]
theorem msR_mc : ∀ (ls : (List L)), (msR ls 0).2 ≤ mcR ls
  | [] => by simp [msR, mcR]
  | l :: ls => by simp only [msR, mcR]; rw [msR_k]; have := msL_mc l; have := msR_mc ls; omega
theorem msEs_mc : ∀ (es : List (List L)), (msEs es 0).2 ≤ mcEs es
  | [] => by simp [msEs, mcEs]
  | e :: es => by simp only [msEs, mcEs]; rw [msEs_k]; have := msR_mc e; have := msEs_mc es; omega
end
end Go.V

/-
  Rows of well-formed records; cells of rows that are written.
-/
namespace Go.V

/-- A row whose elements are of a form. -/
abbrev Rw (fs : List Ty) (es : List (List L)) : Prop := es.length ≤ maxLen ∧ ∀ e ∈ es, confR fs e
abbrev tI : Ty := .int .i64
abbrev tB : Ty := .bool
mutual
def zL : Ty → L
  | .int k => .v (.int k 0)
  | .bool => .v (.bool false)
  | .str => .v (.string .empty)
  | .sl fs => .s fs.length []
def zR : List Ty → (List L)
  | [] => []
  | t :: ts => zL t :: zR ts
end
theorem conf_fit : ∀ {fs : List Ty} {e : (List L)}, confR fs e → fitZ (zR fs) e = true
  | [], [], _ => rfl
  | [], _ :: _, h => h.elim
  | _ :: _, [], h => h.elim
  | t :: ts, l :: ls, h => by
    obtain ⟨h1, h2⟩ := h
    simp only [zR, fitZ, Bool.and_eq_true]
    refine ⟨?_, conf_fit h2⟩
    cases t with
    | int k => cases l with
      | v x => cases x with
        | int k' n => simp only [confL] at h1; simp [zL, fitL, h1.1]
        | _ => simp [confL] at h1
      | _ => simp [confL] at h1
    | bool => cases l with
      | v x => cases x with
        | bool b => rfl
        | _ => simp [confL] at h1
      | _ => simp [confL] at h1
    | str => cases l with
      | v x => cases x with
        | string b => rfl
        | _ => simp [confL] at h1
      | _ => simp [confL] at h1
    | sl fs => cases l with
      | s sz es => simp only [confL] at h1; simp [zL, fitL, h1.1]
      | _ => simp [confL] at h1
theorem Rw.wf {fs : List Ty} {es : List (List L)} (h : Rw fs es) : Wf (zR fs) es := fun e he => conf_fit (h.2 e he)
theorem Rw.at {fs : List Ty} {es : List (List L)} (h : Rw fs es) {n : Nat} (hn : n < es.length) : confR fs (es.getD n []) := by
  refine h.2 _ ?_
  rw [List.getD_eq_getElem?_getD, List.getElem?_eq_getElem hn]; exact List.getElem_mem _
theorem Rw.eta {fs : List Ty} {es : List (List L)} (h : Rw fs es) {i : Int} (h0 : 0 ≤ i) (h1 : i < es.length) : es.getD i.toNat [] = etaE stdO es i 0 (zR fs) := (etaE_whole h.wf h0 h1).symm
theorem confR_sub : ∀ {fs : List Ty} {e : (List L)} {j : Nat} {gs : List Ty}, confR fs e → fs[j]? = some (.sl gs) → ∃ es', e[j]? = some (.s gs.length es') ∧ Rw gs es'
  | [], _, j, gs, _, h => by simp at h
  | _ :: _, [], j, gs, h, _ => h.elim
  | t :: ts, l :: ls, 0, gs, h, e => by
    simp at e; subst e
    have h1 := h.1
    cases l with
    | s sz es => simp only [confL] at h1; exact ⟨es, by simp [h1.1], h1.2⟩
    | _ => simp [confL] at h1
  | t :: ts, l :: ls, j + 1, gs, h, e => by
    simp at e
    obtain ⟨es', h1, h2⟩ := confR_sub h.2 e
    exact ⟨es', by simpa using h1, h2⟩
theorem Rw.sub {fs : List Ty} {es : List (List L)} (h : Rw fs es) {i : Int} (hn : i.toNat < es.length) {j : Nat} {gs : List Ty} (hj : fs[j]? = some (.sl gs)) : Rw gs (gsI es i j) := by
  obtain ⟨es', h1, h2⟩ := confR_sub (h.at hn) hj
  unfold gsI
  rw [List.getD_eq_getElem?_getD (l := es.getD i.toNat []), h1]
  exact h2
theorem Rw.nil {fs : List Ty} : Rw fs [] := ⟨Nat.zero_le _, by simp⟩
theorem Rw.take {fs : List Ty} {es : List (List L)} (h : Rw fs es) (n : Nat) : Rw fs (es.take n) := ⟨by rw [List.length_take]; exact Nat.le_trans (Nat.min_le_right _ _) h.1, fun e he => h.2 e (List.mem_of_mem_take he)⟩
theorem Rw.drop {fs : List Ty} {es : List (List L)} (h : Rw fs es) (n : Nat) : Rw fs (es.drop n) := ⟨by rw [List.length_drop]; exact Nat.le_trans (Nat.sub_le _ _) h.1, fun e he => h.2 e (List.mem_of_mem_drop he)⟩
theorem Rw.append {fs : List Ty} {a b : List (List L)} (ha : Rw fs a) (hb : Rw fs b) (hl : a.length + b.length ≤ maxLen) : Rw fs (a ++ b) := ⟨by simpa using hl, fun e he => by rcases List.mem_append.1 he with q | q; exact ha.2 e q; exact hb.2 e q⟩
theorem Rw.one {fs : List Ty} {e : (List L)} (h : confR fs e) : Rw fs [e] := ⟨by simp [maxLen], by simpa using h⟩
theorem Rw.set {fs : List Ty} {es : List (List L)} (h : Rw fs es) {e : (List L)} (he : confR fs e) (n : Nat) : Rw fs (es.set n e) := ⟨by simpa using h.1, fun x hx => by rcases List.mem_or_eq_of_mem_set hx with q | q; exact h.2 x q; rw [q]; exact he⟩
theorem Rw.replicate {fs : List Ty} {e : (List L)} (h : confR fs e) {n : Nat} (hn : n ≤ maxLen) : Rw fs (List.replicate n e) := ⟨by simpa using hn, fun x hx => by rw [List.eq_of_mem_replicate hx]; exact h⟩

def tyScal : Ty → Bool
  | .sl _ => false
  | _ => true
theorem confL_scal {t : Ty} {l : L} (h : confL t l) (hs : tyScal t = true) : ∃ x, l = .v x := by
  cases t with
  | sl fs => cases hs
  | int k => cases l with
    | v x => exact ⟨x, rfl⟩
    | _ => simp [confL] at h
  | bool => cases l with
    | v x => exact ⟨x, rfl⟩
    | _ => simp [confL] at h
  | str => cases l with
    | v x => exact ⟨x, rfl⟩
    | _ => simp [confL] at h
theorem flat_cntR : ∀ {fs : List Ty} {e : (List L)}, fs.all tyScal = true → confR fs e → cntR e = 0
  | [], [], _, _ => rfl
  | [], _ :: _, _, h => h.elim
  | _ :: _, [], _, h => h.elim
  | t :: ts, l :: ls, hs, h => by
    simp only [List.all_cons, Bool.and_eq_true] at hs
    obtain ⟨x, rfl⟩ := confL_scal h.1 hs.1
    simp only [cntR, cntL]; rw [flat_cntR hs.2 h.2]
theorem flat_cnt {fs : List Ty} (hs : fs.all tyScal = true) : ∀ {es : List (List L)}, (∀ e ∈ es, confR fs e) → cntEs es = 0
  | [], _ => rfl
  | e :: es, h => by simp only [cntEs]; rw [flat_cntR hs (h e (by simp)), flat_cnt hs (fun x hx => h x (by simp [hx]))]
theorem Rw.cnt {fs : List Ty} {es : List (List L)} (h : Rw fs es) (hs : fs.all tyScal = true) : cntE es = es.length := by unfold cntE; rw [flat_cnt hs h.2]; rfl
theorem Rw.scal {fs : List Ty} {es : List (List L)} (h : Rw fs es) (hs : fs.all tyScal = true) : scalRecs es := by
  have key : ∀ {fs : List Ty} {e : (List L)}, fs.all tyScal = true → confR fs e → scalRec e := by
    intro fs
    induction fs with
    | nil => intro e _ h; cases e with
      | nil => trivial
      | cons _ _ => exact h.elim
    | cons t ts ih =>
      intro e hs h
      cases e with
      | nil => exact h.elim
      | cons l ls =>
        simp only [List.all_cons, Bool.and_eq_true] at hs
        obtain ⟨x, rfl⟩ := confL_scal h.1 hs.1
        exact (ih hs.2 h.2 : scalRec ls)
  have : ∀ {es : List (List L)}, (∀ e ∈ es, confR fs e) → scalRecs es := by
    intro es
    induction es with
    | nil => intro _; trivial
    | cons e es ih => intro h; exact ⟨key hs (h e (by simp)), ih (fun x hx => h x (by simp [hx]))⟩
  exact this h.2
theorem cntE_at {es : List (List L)} {n : Nat} (hn : n < es.length) : cntEs (es.take (n + 1)) = cntEs (es.take n) + cntR (es.getD n []) := by
  rw [getD_take_succ (d := []) hn, cntEs_append]; simp [cntEs]
theorem cntEs_take_le {es : List (List L)} {n : Nat} : cntEs (es.take n) ≤ cntEs es := by
  conv => rhs; rw [← List.take_append_drop n es, cntEs_append]
  omega
theorem cntE_nil : cntE [] = 0 := rfl

/-! ### Cells that are written -/
theorem upI_cell {sz : Nat} {es : List (List L)} {n o : Nat} {new : (List L)} : upI (.s sz es) [(n, o)] new = es.set n ((es.getD n []).take o ++ new ++ (es.getD n []).drop (o + new.length)) := rfl
theorem psI_one {sz : Nat} {c : List (List L)} {n j : Nat} : psI (.s sz c) [(n, j)] = lfS ((c.getD n []).getD j .g) := by
  unfold psI getS
  simp only [getR]
  cases h : c[n]? with
  | none => simp [List.getD, h, lfS]
  | some rec =>
    simp only [Option.map_some, List.getD, h, Option.getD_some]
    cases h2 : rec[j]? with
    | none => simp [lfS]
    | some l => cases l <;> simp [lfS]
theorem getD_set_same {c : List (List L)} {n : Nat} {r : (List L)} (h : n < c.length) : (c.set n r).getD n [] = r := by simp [List.getD, h]
theorem getR_set {sz : Nat} {c : List (List L)} {n j : Nat} {r : (List L)} (h : n < c.length) : getR (.s sz (c.set n r)) [(n, j)] = some (r, j) := by simp [getR, h]
theorem getR_at {sz : Nat} {c : List (List L)} {n j : Nat} (h : n < c.length) : getR (.s sz c) [(n, j)] = some (c.getD n [], j) := by simp [getR, List.getD, h]
theorem getS_set {sz : Nat} {c : List (List L)} {n j : Nat} {r : (List L)} (h : n < c.length) : getS (.s sz (c.set n r)) [(n, j)] = match r[j]? with
    | some (.s sz es) => some (sz, es)
    | _ => none := by unfold getS; rw [getR_set h]; rfl
theorem getS_at {sz : Nat} {c : List (List L)} {n j : Nat} (h : n < c.length) : getS (.s sz c) [(n, j)] = match (c.getD n [])[j]? with
    | some (.s sz es) => some (sz, es)
    | _ => none := by unfold getS; rw [getR_at h]; rfl
theorem kN_pre {a b : List (List (List L))} {k : Int} (hk : 0 ≤ k) : kN0 a k ≤ kN0 (a ++ b) k ∧ 0 ≤ kN0 a k := by
  rw [← kN_app, kN_k (rs := b), kN_k (rs := a)]
  have := kN_0 (rs := a); have := kN_0 (rs := b); omega
theorem fit_msL {l : L} {k : Int} {z : L} (h : fitL z l = true) : fitL z (msL l k).1 = true := by
  cases l with
  | v x => cases x <;> cases z <;> simp_all [msL, fitL] <;> (rename_i y; cases y <;> simp_all [fitL])
  | s sz es => cases z <;> simp_all [msL, fitL]
  | g => exact h
  | m _ _ => exact h
theorem fit_msR : ∀ {z e : (List L)} {k : Int}, fitZ z e = true → fitZ z (msR e k).1 = true
  | [], [], _, _ => rfl
  | [], _ :: _, _, h => by simp [fitZ] at h
  | _ :: _, [], _, h => by simp [fitZ] at h
  | z :: zs, l :: ls, k, h => by
    simp only [fitZ, Bool.and_eq_true, msR] at h ⊢
    exact ⟨fit_msL h.1, fit_msR h.2⟩
theorem fit_msEs : ∀ {z : (List L)} {es : List (List L)} {k : Int}, Wf z es → Wf z (msEs es k).1
  | z, [], _, _ => fun e he => by cases he
  | z, e :: es, k, h => by
    intro x hx
    simp only [msEs, List.mem_cons] at hx
    rcases hx with rfl | hx
    · exact fit_msR (h e (by simp))
    · exact fit_msEs (fun y hy => h y (by simp [hy])) x hx
theorem conf_mk_wf {fs : List Ty} {es : List (List L)} {k : Int} (h : Rw fs es) : Wf (zR fs) (mkN0 es k) := fit_msEs h.wf

end Go.V

/-
  Marks are few; what the laws ask of rows.
-/
namespace Go.V

mutual
def twL : Ty → Nat
  | .sl fs => twR fs
  | _ => 1
def twR : List Ty → Nat
  | [] => 0
  | t :: ts => twL t + twR ts
end
theorem cntR_le_cons {l : L} {ls : (List L)} : cntR ls ≤ cntR (l :: ls) := by simp [cntR]
mutual
theorem marksL : ∀ (t : Ty) (l : L), confL t l → (msL l 0).2 ≤ (twL t * (cntL l + 1) : Nat)
  | .int k, .v x, h => by cases x <;> simp [msL, cntL, twL]
  | .int k, .s _ _, h => by simp [confL] at h
  | .int k, .g, h => by simp [confL] at h
  | .bool, .v x, h => by cases x <;> simp [msL, cntL, twL]
  | .bool, .s _ _, h => by simp [confL] at h
  | .bool, .g, h => by simp [confL] at h
  | .str, .v x, h => by cases x <;> simp [msL, cntL, twL]
  | .str, .s _ _, h => by simp [confL] at h
  | .str, .g, h => by simp [confL] at h
  | .sl fs, .v x, h => by simp [confL] at h
  | .sl fs, .g, h => by simp [confL] at h
  | .sl fs, .s sz es, h => by
    have h1 := marksEs fs es (by simp only [confL] at h; exact h.2.2)
    simp only [msL, cntL, twL]
    have : twR fs * (es.length + cntEs es) ≤ twR fs * (es.length + cntEs es + 1) := Nat.mul_le_mul_left _ (by omega)
    omega
theorem marksR : ∀ (ts : List Ty) (ls : (List L)), confR ts ls → (msR ls 0).2 ≤ (twR ts * (cntR ls + 1) : Nat)
  | [], [], _ => by simp only [msR]; exact Int.natCast_nonneg _
  | [], _ :: _, h => h.elim
  | _ :: _, [], h => h.elim
  | t :: ts, l :: ls, h => by
    have h1 := marksL t l h.1
    have h2 := marksR ts ls h.2
    simp only [msR]
    rw [msR_k]
    have e1 : twL t * (cntL l + 1) ≤ twL t * (cntR (l :: ls) + 1) := Nat.mul_le_mul_left _ (by simp [cntR])
    have e2 : twR ts * (cntR ls + 1) ≤ twR ts * (cntR (l :: ls) + 1) := Nat.mul_le_mul_left _ (by simp [cntR])
    have e3 : twR (t :: ts) * (cntR (l :: ls) + 1) = twL t * (cntR (l :: ls) + 1) + twR ts * (cntR (l :: ls) + 1) := by simp only [twR]; rw [Nat.add_mul]
    omega
theorem marksEs : ∀ (ts : List Ty) (es : List (List L)), (∀ e ∈ es, confR ts e) → (msEs es 0).2 ≤ (twR ts * (es.length + cntEs es) : Nat)
  | ts, [], _ => by simp only [msEs]; exact Int.natCast_nonneg _
  | ts, e :: es, h => by
    have h1 := marksR ts e (h e (by simp))
    have h2 := marksEs ts es (fun x hx => h x (by simp [hx]))
    simp only [msEs]
    rw [msEs_k]
    have e3 : twR ts * ((e :: es).length + cntEs (e :: es)) = twR ts * (cntR e + 1) + twR ts * (es.length + cntEs es) := by
      rw [← Nat.mul_add]; congr 1; simp [cntEs]; omega
    omega
end
/-- The marks of a row. -/
theorem Rw.marks {fs : List Ty} {es : List (List L)} (h : Rw fs es) (hw : twR fs ≤ 64) : (msEs es 0).2 ≤ (64 * cntE es : Nat) := by
  have := marksEs fs es h.2
  have h2 : twR fs * (es.length + cntEs es) ≤ 64 * (es.length + cntEs es) := Nat.mul_le_mul_right _ hw
  unfold cntE
  omega
theorem kN_bound : ∀ {rs : List (List (List L))} {k : Int}, (∀ r ∈ rs, (msEs r 0).2 ≤ (64 * cntE r : Nat)) → kN0 rs k ≤ k + (64 * cntRs rs : Nat)
  | [], k, _ => by simp [kN0, cntRs]
  | r :: rs, k, h => by
    simp only [kN0, cntRs]
    have h1 := h r (by simp)
    have h2 := kN_bound (rs := rs) (k := (msEs r k).2) (fun x hx => h x (by simp [hx]))
    rw [msEs_k] at h2
    rw [msEs_k r k]
    have : 64 * (cntE r + cntRs rs) = 64 * cntE r + 64 * cntRs rs := Nat.mul_add _ _ _
    omega
theorem kN_small {rs : List (List (List L))} {k : Int} (h : ∀ r ∈ rs, (msEs r 0).2 ≤ (64 * cntE r : Nat)) (hk : 0 ≤ k ∧ k ≤ 1000) (hc : cntRs rs ≤ 1099511627776) : kN0 rs k ≤ 1152921504606846976 := by
  have := kN_bound (k := k) h
  have : 64 * cntRs rs ≤ 64 * 1099511627776 := Nat.mul_le_mul_left _ hc
  omega
theorem kN_pos {rs : List (List (List L))} {k : Int} (hk : 0 ≤ k) : ¬ kN0 rs k < 0 := by
  rw [kN_k]; have := kN_0 (rs := rs); omega
theorem szN_ok {rs : List (List (List L))} (h : ¬ szN0 rs 1048576 < 0) : cntRs rs ≤ 1048576 := by rw [szN_neg] at h; omega
theorem szN_no {rs : List (List (List L))} (h : cntRs rs ≤ 1048576) : ¬ szN0 rs 1048576 < 0 := by rw [szN_neg]; omega
theorem subI_mk {es : List (List L)} {k : Int} : subI (mkN0 es k) 0 es.length = mkN0 es k := by
  rw [← mkN_length (es := es) (k := k), sub_all]
end Go.V
