/-
  The value-level condition generator, part 33: a call that writes into rows of the caller's: its contract, its condition.
-/
import Derived.Test.YtlpkkliogonmnaaV32
set_option linter.all false

namespace Go.V

/-- The slices among a record's cells; their values. -/
def slL : Rec → List L
  | [] => []
  | .s sz es :: ls => .s sz es :: slL ls
  | _ :: ls => slL ls
def slV : Rec → List Value → List Value
  | .s _ _ :: ls, v :: vs => v :: slV ls vs
  | _ :: ls, _ :: vs => slV ls vs
  | _, _ => []
def argVals : List DV → List Value → List Value
  | .one l :: ds, v :: vs => slV [l] [v] ++ argVals ds vs
  | .agg ls :: ds, .agg cs :: vs => slV ls cs.toList ++ argVals ds vs
  | _, _ => []

/-- THE CONTRACT of a function that writes into the rows of its arguments: 'outs' is what these hold behind the call. -/
def MCtr (P : Program) (f : FuncId) (ds : List DV) (outs : List L) (res : List DV) : Prop :=
  ∀ (w : World) (vs : List Value) (S : List Nat), RdDVs w ds vs S → S.Nodup → (∀ b ∈ S, Unf w b) →
    Calls P f vs.toArray w fun e w' => ∃ v Sr S', e = .returned v ∧ RdRes w' res v Sr ∧ RdRec w' outs (argVals ds vs) S' ∧ (Sr ++ S').Nodup ∧ (∀ b ∈ Sr ++ S', Unf w' b ∧ (w.heap.size ≤ b ∨ b ∈ S)) ∧ Same (fun b => b ∉ S) w w'

def own1 {α : Type} (pr : (Unit → Prop) → Prop) (slot : Option Nat) (a : A) (k : L → List (Nat × Nat) → Rd α) : Rd α :=
  match a, slot with
  | .v x, none => if scal x then k (.v x) [] else .fail
  | .vw r j ver lo m, some sz => rdH r j fun h => match h.c with
    | .own (.s sz' es) => if h.ver == ver && sz' == sz then .req (pr fun _ => lo = 0 ∧ m = es.length) (k (.s sz' es) [(r, j)]) else .fail
    | _ => .fail
  | _, _ => .fail
def ownAll {α : Type} (pr : (Unit → Prop) → Prop) : List (Option Nat) → List A → (Rec → List (Nat × Nat) → Rd α) → Rd α
  | [], [], k => k [] []
  | sl :: sls, a :: as, k => own1 pr sl a fun l p => ownAll pr sls as fun ls ps => k (l :: ls) (p ++ ps)
  | _, _, _ => .fail
def ownD {α : Type} (pr : (Unit → Prop) → Prop) (ty : TypeId → Option TI) (t : TypeId) (x : Operand) (k : DV → List (Nat × Nat) → Rd α) : Rd α :=
  match ty t with
  | none => .fail
  | some ti => ev x fun val => match val with
    | .one a => if ti.agg then .fail else ownAll pr ti.slots [a] fun ls ps => match ls with
      | [l] => k (.one l) ps
      | _ => .fail
    | .agg as => if ti.agg then ownAll pr ti.slots as fun ls ps => k (.agg ls) ps else .fail
    | .tup _ => .fail
def ownDs {α : Type} (pr : (Unit → Prop) → Prop) (ty : TypeId → Option TI) : List TypeId → List Operand → (List DV → List (Nat × Nat) → Rd α) → Rd α
  | [], [], k => k [] []
  | t :: ts, x :: xs, k => ownD pr ty t x fun d p => ownDs pr ty ts xs fun ds ps => k (d :: ds) (p ++ ps)
  | _, _, _ => .fail
def upsR {α : Type} (pr : (Unit → Prop) → Prop) : List (Nat × Nat) → List L → (List W → Rd α) → Rd α
  | [], [], k => k []
  | (r, j) :: ps, o :: os, k => match o with
    | .s sz es' => rdH r j fun h => match h.c with
      | .own (.s sz0 es) => if sz0 == sz then .req (pr fun _ => es'.length = es.length) (upsR pr ps os fun ws => k (.leaf r j ⟨h.ver, h.iv + 1, h.org, .own (.s sz es')⟩ :: ws)) else .fail
      | _ => .fail
    | _ => .fail
  | _, _, _ => .fail
abbrev MK := List DV → Option ((Unit → Prop) × List L × List DV)
def vCallM (pr : (Unit → Prop) → Prop) (ty : TypeId → Option TI) (n : Nat) (d : Option Tmp) (body : Bool) (ts : Array TypeId) (args : Array Operand) (mk : MK) (rw : Nat → List DV → List W) : Rd Out :=
  if body then ownDs pr ty ts.toList args.toList fun ds ps => match mk ds with
    | some (pre, outs, res) => if distinctP ps then .req (pr pre) (upsR pr ps outs fun ws => fresh n d fun d => .ret (.ws (ws ++ rw d res))) else .fail
    | none => .fail
  else .fail
def prS (f : Unit → Prop) : Prop := f ()

section
variable {P : Program} {o : Oper} {cx : Cx} {G : Gh} {g : Gm} {a : Act} {w : World}

/-- What own arguments are: the trees, the places of their rows, the values. -/
inductive OwnTk (g : Gm) (G : Gh) : Rec → List (Nat × Nat) → List Value → Prop where
  | nil : OwnTk g G [] [] []
  | v {x : Value} {ls ps vs} (h : scal x = true) (hs : OwnTk g G ls ps vs) : OwnTk g G (.v x :: ls) ps (x :: vs)
  | s {r j : Nat} {h : Hv} {sz : Nat} {es : List Rec} {ls ps vs} (h1 : g (.leaf r j) = some (.h h)) (h2 : h.c = .own (.s sz es)) (hs : OwnTk g G ls ps vs) : OwnTk g G (.s sz es :: ls) ((r, j) :: ps) (G.val r j :: vs)

def fpsOf (G : Gh) (ps : List (Nat × Nat)) : List Nat := (ps.map fun p => G.fp p.1 p.2).flatten
theorem fpsOf_append {ps qs : List (Nat × Nat)} : fpsOf G (ps ++ qs) = fpsOf G ps ++ fpsOf G qs := by simp [fpsOf]

theorem OwnTk.rd (hS : SimG cx G g a w) {ls : Rec} {ps : List (Nat × Nat)} {vs : List Value} (h : OwnTk g G ls ps vs) : RdRec w ls vs (fpsOf G ps) := by
  induction h with
  | nil => simp [RdRec, fpsOf]
  | v h hs ih => simp only [RdRec]; exact ⟨_, _, [], _, rfl, by simp [RdL, h], ih, rfl⟩
  | @s r j h sz es ls ps vs h1 h2 hs ih =>
    have := hS.hok (gl_some.2 h1)
    simp only [HOk, h2] at this
    simp only [RdRec]
    exact ⟨_, _, G.fp r j, _, rfl, this.1, ih, rfl⟩
theorem OwnTk.vals {ls : Rec} {ps : List (Nat × Nat)} {vs : List Value} (h : OwnTk g G ls ps vs) : slV ls vs = ps.map fun p => G.val p.1 p.2 := by
  induction h with
  | nil => rfl
  | v h hs ih => simpa [slV] using ih
  | s h1 h2 hs ih => simp [slV, ih]
theorem OwnTk.append {ls ls' : Rec} {ps ps' : List (Nat × Nat)} {vs vs' : List Value} (h : OwnTk g G ls ps vs) (h' : OwnTk g G ls' ps' vs') : OwnTk g G (ls ++ ls') (ps ++ ps') (vs ++ vs') := by
  induction h with
  | nil => exact h'
  | v h hs ih => exact .v h ih
  | s h1 h2 hs ih => exact .s h1 h2 ih

theorem own1_sound (hS : SimG cx G g a w) {α : Type} {slot : Option Nat} {x : A} {v : Value} (hx : AOk (gl g) G w x v) {k : L → List (Nat × Nat) → Rd α} {ls : List Loc} {out : α}
    (h : (own1 prS slot x k).Runs g ls out) : ∃ l ps ls', OwnTk g G [l] ps [v] ∧ (k l ps).Runs g ls' out := by
  unfold own1 at h
  split at h
  · rename_i y
    have hv : v = y := hx
    subst hv
    split at h
    · rename_i hs; exact ⟨_, _, ls, .v hs .nil, h⟩
    · exact h.elim
  · rename_i r j ver lo m sz
    obtain ⟨hv, ls2, q1, q2, h⟩ := rdH_sound h
    split at h
    · rename_i sz' es hc
      split at h
      · rename_i hb
        simp only [Bool.and_eq_true, beq_iff_eq] at hb
        obtain ⟨hp, h⟩ := h
        obtain ⟨h0, h1⟩ : lo = 0 ∧ m = es.length := hp
        obtain ⟨h2, f1, f2, f3⟩ := hx
        rw [q1] at f1; cases f1
        obtain ⟨f4, base, len, cap, base', cap', g1, g2, g3, g4, g5, g6⟩ := f3 hb.1 sz' es hc
        have hok := hS.hok q1
        have : m = len := by
          simp only [HOk, hc, RdL] at hok
          obtain ⟨⟨b0, n0, c0, r1, r2, _⟩, _⟩ := hok
          rw [g1] at r1; cases r1; omega
        have e := g5 h0 this
        refine ⟨_, _, ls2, ?_, h⟩
        rw [e]
        exact .s q2 hc .nil
      · exact h.elim
    · exact h.elim
  · exact h.elim

theorem ownAll_sound (hS : SimG cx G g a w) {α : Type} : ∀ (slots : List (Option Nat)) (as : List A) (vs : List Value), AOks (gl g) G w as vs → ∀ (k : Rec → List (Nat × Nat) → Rd α) (ls : List Loc) (out : α), (ownAll prS slots as k).Runs g ls out →
    ∃ l ps ls', OwnTk g G l ps vs ∧ (k l ps).Runs g ls' out
  | [], [], vs, hx, k, ls, out, h => by simp only [AOks] at hx; subst hx; exact ⟨[], [], ls, .nil, h⟩
  | [], _ :: _, vs, hx, k, ls, out, h => h.elim
  | _ :: _, [], vs, hx, k, ls, out, h => h.elim
  | sl :: sls, x :: as, vs, hx, k, ls, out, h => by
    obtain ⟨v, vs', rfl, h1, h2⟩ := hx
    obtain ⟨l, p, ls2, k1, h⟩ := own1_sound hS h1 h
    obtain ⟨l2, p2, ls3, k2, h⟩ := ownAll_sound hS sls as vs' h2 _ _ _ h
    exact ⟨l :: l2, p ++ p2, ls3, k1.append k2, h⟩

/-- The same of several arguments. -/
inductive OwnMs (g : Gm) (G : Gh) : List DV → List (Nat × Nat) → List Value → Prop where
  | nil : OwnMs g G [] [] []
  | one {l : L} {p v ds ps vs} (h : OwnTk g G [l] p [v]) (hs : OwnMs g G ds ps vs) : OwnMs g G (.one l :: ds) (p ++ ps) (v :: vs)
  | agg {ls : Rec} {p : List (Nat × Nat)} {us : List Value} {ds ps vs} (h : OwnTk g G ls p us) (hs : OwnMs g G ds ps vs) : OwnMs g G (.agg ls :: ds) (p ++ ps) (.agg us.toArray :: vs)

theorem OwnMs.rd (hS : SimG cx G g a w) {ds : List DV} {ps : List (Nat × Nat)} {vs : List Value} (h : OwnMs g G ds ps vs) : RdDVs w ds vs (fpsOf G ps) := by
  induction h with
  | nil => simp [RdDVs, fpsOf]
  | @one l p v ds ps vs h hs ih =>
    have := h.rd hS
    simp only [RdRec] at this
    obtain ⟨v', vs', S1, S2, e, q1, ⟨rfl, rfl⟩, q3⟩ := this
    cases e
    simp only [RdDVs]
    exact ⟨_, _, fpsOf G p, fpsOf G ps, rfl, by rw [q3, List.append_nil]; exact q1, ih, fpsOf_append⟩
  | @agg ls p us ds ps vs h hs ih =>
    simp only [RdDVs]
    exact ⟨_, _, fpsOf G p, fpsOf G ps, rfl, ⟨us, rfl, h.rd hS⟩, ih, fpsOf_append⟩
theorem OwnMs.vals {ds : List DV} {ps : List (Nat × Nat)} {vs : List Value} (h : OwnMs g G ds ps vs) : argVals ds vs = ps.map fun p => G.val p.1 p.2 := by
  induction h with
  | nil => rfl
  | one h hs ih => simp only [argVals, h.vals, ih, List.map_append]
  | agg h hs ih => simp only [argVals, h.vals, ih, List.map_append]
theorem OwnTk.mem {ls : Rec} {ps : List (Nat × Nat)} {vs : List Value} (h : OwnTk g G ls ps vs) : ∀ p ∈ ps, ∃ h sz es, g (.leaf p.1 p.2) = some (.h h) ∧ h.c = .own (.s sz es) := by
  induction h with
  | nil => intro p hp; cases hp
  | v h hs ih => exact ih
  | @s r j h sz es ls ps vs h1 h2 hs ih =>
    intro p hp
    rcases List.mem_cons.1 hp with rfl | hp
    · exact ⟨h, sz, es, h1, h2⟩
    · exact ih p hp
theorem OwnMs.mem {ds : List DV} {ps : List (Nat × Nat)} {vs : List Value} (h : OwnMs g G ds ps vs) : ∀ p ∈ ps, ∃ h sz es, g (.leaf p.1 p.2) = some (.h h) ∧ h.c = .own (.s sz es) := by
  induction h with
  | nil => intro p hp; cases hp
  | one h hs ih =>
    intro p hp
    rcases List.mem_append.1 hp with q | q
    · exact h.mem p q
    · exact ih p q
  | agg h hs ih =>
    intro p hp
    rcases List.mem_append.1 hp with q | q
    · exact h.mem p q
    · exact ih p q

theorem ownD_sound (hS : SimG cx G g a w) {ty : TypeId → Option TI} {t : TypeId} {x : Operand} {α : Type} {k : DV → List (Nat × Nat) → Rd α} {ls : List Loc} {out : α} (h : (ownD prS ty t x k).Runs g ls out) :
    ∃ d p ls', (∀ ds ps vs, OwnMs g G ds ps vs → OwnMs g G (d :: ds) (p ++ ps) (a.eval x :: vs)) ∧ (k d p).Runs g ls' out := by
  unfold ownD at h
  cases hti : ty t with
  | none => simp [hti, Rd.Runs] at h
  | some ti =>
    simp only [hti] at h
    obtain ⟨r, ls1, hr, h⟩ := ev_sound hS h
    cases r with
    | one x0 =>
      simp only [ROk] at hr
      simp only at h
      split at h
      · exact h.elim
      · obtain ⟨l, p, ls2, k1, h⟩ := ownAll_sound hS _ [x0] [a.eval x] (by simp [AOks, hr]) _ _ _ h
        split at h
        · exact ⟨_, p, ls2, fun ds ps vs hm => .one k1 hm, h⟩
        · exact h.elim
    | agg as =>
      simp only [ROk] at hr
      obtain ⟨us, e, hr⟩ := hr
      simp only at h
      split at h
      · obtain ⟨l, p, ls2, k1, h⟩ := ownAll_sound hS _ as us hr _ _ _ h
        exact ⟨_, p, ls2, fun ds ps vs hm => by rw [e]; exact .agg k1 hm, h⟩
      · exact h.elim
    | tup rs => exact h.elim

theorem ownDs_sound (hS : SimG cx G g a w) {ty : TypeId → Option TI} {α : Type} : ∀ (ts : List TypeId) (xs : List Operand) (k : List DV → List (Nat × Nat) → Rd α) (ls : List Loc) (out : α), (ownDs prS ty ts xs k).Runs g ls out →
    ∃ ds ps ls', OwnMs g G ds ps (xs.map a.eval) ∧ (k ds ps).Runs g ls' out
  | [], [], k, ls, out, h => ⟨[], [], ls, .nil, h⟩
  | [], _ :: _, k, ls, out, h => h.elim
  | _ :: _, [], k, ls, out, h => h.elim
  | t :: ts, x :: xs, k, ls, out, h => by
    simp only [ownDs] at h
    obtain ⟨d, p, ls2, k1, h⟩ := ownD_sound hS h
    obtain ⟨ds, ps, ls3, k2, h⟩ := ownDs_sound hS ts xs _ _ _ h
    exact ⟨d :: ds, p ++ ps, ls3, k1 _ _ _ k2, h⟩

inductive UpsRel (g : Gm) : List (Nat × Nat) → List L → List Hv → Prop where
  | nil : UpsRel g [] [] []
  | cons {r j : Nat} {h : Hv} {sz : Nat} {es es' : List Rec} {ps os hs} (h1 : g (.leaf r j) = some (.h h)) (h2 : h.c = .own (.s sz es)) (h3 : es'.length = es.length) (hs' : UpsRel g ps os hs) :
      UpsRel g ((r, j) :: ps) (.s sz es' :: os) (⟨h.ver, h.iv + 1, h.org, .own (.s sz es')⟩ :: hs)
def wsOf : List (Nat × Nat) → List Hv → List W
  | (r, j) :: ps, h :: hs => .leaf r j h :: wsOf ps hs
  | _, _ => []

theorem upsR_sound {α : Type} : ∀ (ps : List (Nat × Nat)) (os : List L) (k : List W → Rd α) (ls : List Loc) (out : α), (upsR prS ps os k).Runs g ls out → ∃ hs ls', UpsRel g ps os hs ∧ (k (wsOf ps hs)).Runs g ls' out
  | [], [], k, ls, out, h => ⟨[], ls, .nil, h⟩
  | [], _ :: _, k, ls, out, h => h.elim
  | _ :: _, [], k, ls, out, h => h.elim
  | (r, j) :: ps, o :: os, k, ls, out, h => by
    cases o with
    | v x => exact h.elim
    | g => exact h.elim
    | s sz es' =>
      obtain ⟨hv, ls2, q1, q2, h⟩ := rdH_sound (k := fun h => match h.c with
        | .own (.s sz0 es) => if sz0 == sz then .req (prS fun _ => es'.length = es.length) (upsR prS ps os fun ws => k (.leaf r j ⟨h.ver, h.iv + 1, h.org, .own (.s sz es')⟩ :: ws)) else .fail
        | _ => .fail) h
      split at h
      · rename_i sz0 es hc
        split at h
        · rename_i hb
          simp only [beq_iff_eq] at hb
          subst hb
          obtain ⟨hp, h⟩ := h
          obtain ⟨hs, ls3, k1, k2⟩ := upsR_sound ps os _ _ _ h
          exact ⟨_, ls3, .cons q2 hc hp k1, k2⟩
        · exact h.elim
      · exact h.elim

def uOf : List (Nat × Nat) → List Hv → List (List Nat) → Ups
  | p :: ps, h :: hs, S :: Ss, r, j => if (r, j) = p then some (h, S) else uOf ps hs Ss r j
  | _, _, _, _, _ => none

theorem uOf_some : ∀ {ps : List (Nat × Nat)} {hs : List Hv} {Ss : List (List Nat)} {r j : Nat} {x : Hv × List Nat}, uOf ps hs Ss r j = some x → ∃ i : Nat, ps[i]? = some (r, j) ∧ hs[i]? = some x.1 ∧ Ss[i]? = some x.2
  | [], _, _, r, j, x, h => by cases h
  | _ :: _, [], _, r, j, x, h => by cases h
  | _ :: _, _ :: _, [], r, j, x, h => by cases h
  | p :: ps, hv :: hs, S :: Ss, r, j, x, h => by
    simp only [uOf] at h
    split at h
    · rename_i e; cases h; exact ⟨0, by simp [e], rfl, rfl⟩
    · obtain ⟨i, h1, h2, h3⟩ := uOf_some h
      exact ⟨i + 1, by simpa using h1, by simpa using h2, by simpa using h3⟩
theorem uOf_mem : ∀ {ps : List (Nat × Nat)} {hs : List Hv} {Ss : List (List Nat)} {r j : Nat}, hs.length = ps.length → Ss.length = ps.length → (r, j) ∈ ps → ∃ x, uOf ps hs Ss r j = some x
  | [], _, _, r, j, _, _, h => by cases h
  | _ :: _, [], _, r, j, h, _, _ => by simp at h
  | _ :: _, _ :: _, [], r, j, _, h, _ => by simp at h
  | p :: ps, hv :: hs, S :: Ss, r, j, h1, h2, h => by
    simp only [uOf]
    split
    · exact ⟨_, rfl⟩
    · rename_i e
      rcases List.mem_cons.1 h with q | q
      · exact absurd q e
      · exact uOf_mem (by simpa using h1) (by simpa using h2) q
theorem uOf_none : ∀ {ps : List (Nat × Nat)} {hs : List Hv} {Ss : List (List Nat)} {r j : Nat}, (r, j) ∉ ps → uOf ps hs Ss r j = none
  | [], _, _, r, j, _ => rfl
  | _ :: _, [], _, r, j, _ => rfl
  | _ :: _, _ :: _, [], r, j, _ => rfl
  | p :: ps, hv :: hs, S :: Ss, r, j, h => by
    simp only [List.mem_cons, not_or] at h
    simp only [uOf]; rw [if_neg h.1]; exact uOf_none h.2

theorem distinctP_cons {p : Nat × Nat} {ps : List (Nat × Nat)} (h : distinctP (p :: ps) = true) : p ∉ ps ∧ distinctP ps = true := by
  simp only [distinctP, Bool.and_eq_true, Bool.not_eq_true', List.contains_eq_mem, decide_eq_false_iff_not] at h
  exact h

theorem apps_ups : ∀ {ps : List (Nat × Nat)} {hs : List Hv} {Ss : List (List Nat)} {g : Gm}, distinctP ps = true → hs.length = ps.length → Ss.length = ps.length →
    (∀ d, apps g (wsOf ps hs) (.reg d) = g (.reg d)) ∧ (∀ d, apps g (wsOf ps hs) (.meta_ d) = g (.meta_ d)) ∧ ∀ r j, apps g (wsOf ps hs) (.leaf r j) = match uOf ps hs Ss r j with
      | some x => some (.h x.1)
      | none => g (.leaf r j)
  | [], [], _, g, _, _, _ => ⟨fun _ => rfl, fun _ => rfl, fun _ _ => rfl⟩
  | [], _ :: _, _, g, _, h, _ => by simp at h
  | _ :: _, [], _, g, _, h, _ => by simp at h
  | _ :: _, _ :: _, [], g, _, _, h => by simp at h
  | (r0, j0) :: ps, h :: hs, S :: Ss, g, hd, hl, hl2 => by
    obtain ⟨hn, hd2⟩ := distinctP_cons hd
    obtain ⟨k1, k2, k3⟩ := apps_ups (Ss := Ss) (g := (W.leaf r0 j0 h).app g) hd2 (by simpa using hl) (by simpa using hl2)
    refine ⟨fun d => ?_, fun d => ?_, fun r j => ?_⟩
    · simp only [wsOf, apps]; rw [k1]; simp [W.app]
    · simp only [wsOf, apps]; rw [k2]; simp [W.app]
    · simp only [wsOf, apps]; rw [k3]
      simp only [uOf]
      by_cases e : (r, j) = (r0, j0)
      · cases e
        rw [if_pos rfl, uOf_none hn]
        simp [W.app]
      · rw [if_neg e]
        cases uOf ps hs Ss r j with
        | some x => rfl
        | none => simp only [W.app]; rw [if_neg (by intro q; cases q; exact e rfl)]

theorem UpsRel.length {ps : List (Nat × Nat)} {os : List L} {hs : List Hv} (h : UpsRel g ps os hs) : hs.length = ps.length ∧ os.length = ps.length := by
  induction h with
  | nil => exact ⟨rfl, rfl⟩
  | cons _ _ _ _ ih => simp [ih.1, ih.2]
theorem UpsRel.at {ps : List (Nat × Nat)} {os : List L} {hs : List Hv} (h : UpsRel g ps os hs) : ∀ (i r j : Nat) (h' : Hv), ps[i]? = some (r, j) → hs[i]? = some h' → ∃ h sz es es', g (.leaf r j) = some (.h h) ∧ h.c = .own (.s sz es) ∧ h' = ⟨h.ver, h.iv + 1, h.org, .own (.s sz es')⟩ ∧ es'.length = es.length ∧ os[i]? = some (.s sz es') := by
  induction h with
  | nil => intro i r j h' e; simp at e
  | @cons r0 j0 h0 sz es es' ps os hs h1 h2 h3 hr ih =>
    intro i r j h' e1 e2
    cases i with
    | zero => simp at e1 e2; obtain ⟨rfl, rfl⟩ := e1; subst e2; exact ⟨h0, sz, es, es', h1, h2, rfl, h3, rfl⟩
    | succ i => simp at e1 e2; obtain ⟨a1, a2, a3, a4, q⟩ := ih i r j h' e1 e2; exact ⟨a1, a2, a3, a4, by simpa using q⟩

theorem fpsOf_mem {ps : List (Nat × Nat)} {b : Nat} (h : b ∈ fpsOf G ps) : ∃ p ∈ ps, b ∈ G.fp p.1 p.2 := by
  simp only [fpsOf, List.mem_flatten, List.mem_map] at h
  obtain ⟨l, ⟨p, hp, rfl⟩, hb⟩ := h
  exact ⟨p, hp, hb⟩
theorem fpsOf_nodup (hS : SimG cx G g a w) : ∀ {ps : List (Nat × Nat)}, distinctP ps = true → (∀ p ∈ ps, ∃ h sz es, g (.leaf p.1 p.2) = some (.h h) ∧ h.c = .own (.s sz es)) → (fpsOf G ps).Nodup ∧ ∀ b ∈ fpsOf G ps, Unf w b
  | [], _, _ => ⟨List.nodup_nil, fun b hb => by cases hb⟩
  | p :: ps, hd, hm => by
    obtain ⟨hn, hd2⟩ := distinctP_cons hd
    obtain ⟨k1, k2⟩ := fpsOf_nodup hS hd2 (fun q hq => hm q (by simp [hq]))
    have tok : ∀ q : Nat × Nat, (∃ h sz es, g (.leaf q.1 q.2) = some (.h h) ∧ h.c = .own (.s sz es)) → (G.fp q.1 q.2).Nodup ∧ ∀ b ∈ G.fp q.1 q.2, G.ow b = some (.leaf q.1 q.2) ∧ Unf w b := by
      rintro q ⟨h, sz, es, e1, e2⟩
      have := hS.hok (gl_some.2 e1)
      simp only [HOk, e2] at this
      exact this.2
    obtain ⟨t1, t2⟩ := tok p (hm p (by simp))
    have e : fpsOf G (p :: ps) = G.fp p.1 p.2 ++ fpsOf G ps := by simp [fpsOf]
    rw [e]
    refine ⟨List.nodup_append.2 ⟨t1, k1, fun x hx y hy exy => ?_⟩, fun b hb => ?_⟩
    · subst exy
      obtain ⟨q, hq, hxq⟩ := fpsOf_mem hy
      have h1 := (t2 x hx).1
      have h2 := ((tok q (hm q (by simp [hq]))).2 x hxq).1
      rw [h1] at h2
      injection h2 with h2
      injection h2 with e1 e2
      exact hn (by rw [show p = q from Prod.ext e1 e2]; exact hq)
    · rcases List.mem_append.1 hb with q | q
      · exact (t2 b q).2
      · exact k2 b q

end
end Go.V
