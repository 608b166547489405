/-
  The value-level condition generator, part 22: lists of operations in text order, with what each reads and writes.
-/
import Derived.Test.YtlpkkliogonmnaaV21
set_option linter.all false

namespace Go.V

/-- A case of a truth value: it is left standing where the value is not known. -/
def caseB (b : Bool) (A B : Unit → Prop) : Prop := (Bool.rec (motive := fun _ => Unit → Prop) B A b : Unit → Prop) ()
theorem caseB_intro {b : Bool} {A B : Unit → Prop} (h1 : b = true → A ()) (h2 : b = false → B ()) : (Bool.rec (motive := fun _ => Unit → Prop) B A b : Unit → Prop) () := by
  cases b with
  | true => exact h1 rfl
  | false => exact h2 rfl

def Rd.wpU {α : Type} (g : Gm) : Rd α → List Loc → (List Loc → α → Prop) → Prop
  | .fail, _, _ => False
  | .ret a, t, K => K t a
  | .get l k, t, K => (k (g l)).wpU g (l :: t) K
  | .req c k, t, K => c ∧ k.wpU g t K
  | .br b k1 k2, t, K => caseB b (fun _ => k1.wpU g t K) (fun _ => k2.wpU g t K)

theorem Rd.wpU_runs {α : Type} {g : Gm} : ∀ {rd : Rd α} {t : List Loc} {K : List Loc → α → Prop}, rd.wpU g t K → ∃ ls x t', rd.Runs g ls x ∧ K t' x ∧ (∀ l ∈ ls, l ∈ t') ∧ (∀ l ∈ t, l ∈ t')
  | .fail, _, _, h => h.elim
  | .ret b, t, _, h => ⟨[], b, t, ⟨rfl, rfl⟩, h, by simp, fun _ h => h⟩
  | .get l k, t, _, h => by
    obtain ⟨ls, x, t', h1, h2, h3, h4⟩ := Rd.wpU_runs (rd := k (g l)) h
    refine ⟨l :: ls, x, t', ⟨ls, rfl, h1⟩, h2, ?_, fun y hy => h4 y (by simp [hy])⟩
    intro y hy
    rcases List.mem_cons.1 hy with rfl | hy
    · exact h4 _ (by simp)
    · exact h3 _ hy
  | .req c k, t, _, h => by
    obtain ⟨ls, x, t', h1, h2, h3⟩ := Rd.wpU_runs (rd := k) h.2
    exact ⟨ls, x, t', ⟨h.1, h1⟩, h2, h3⟩
  | .br b k1 k2, t, _, h => by
    cases b with
    | true => obtain ⟨ls, x, t', h1, h2⟩ := Rd.wpU_runs (rd := k1) h; exact ⟨ls, x, t', .inl ⟨rfl, h1⟩, h2⟩
    | false => obtain ⟨ls, x, t', h1, h2⟩ := Rd.wpU_runs (rd := k2) h; exact ⟨ls, x, t', .inr ⟨rfl, h1⟩, h2⟩

theorem Rd.Runs_congr {α : Type} {g g' : Gm} : ∀ {rd : Rd α} {ls : List Loc} {x : α}, rd.Runs g ls x → (∀ l ∈ ls, g' l = g l) → rd.Runs g' ls x
  | .fail, _, _, h, _ => h
  | .ret b, _, _, h, _ => h
  | .get l k, _, _, h, hg => by
    obtain ⟨ls', e, h⟩ := h
    subst e
    refine ⟨ls', rfl, ?_⟩
    rw [hg l (by simp)]
    exact Rd.Runs_congr h (fun y hy => hg y (by simp [hy]))
  | .req c k, _, _, h, hg => ⟨h.1, Rd.Runs_congr h.2 hg⟩
  | .br b k1 k2, _, _, h, hg => by
    rcases h with ⟨e, h⟩ | ⟨e, h⟩
    · exact .inl ⟨e, Rd.Runs_congr h hg⟩
    · exact .inr ⟨e, Rd.Runs_congr h hg⟩

def skipW (n : Nat) (o : Oper) (ws : List W) : Prop :=
  match o.dst with
  | some d => d < n ∧ ws = [.reg d (.one (.v undef))]
  | none => ws = []

/-- An operation of a region, with what it reads (at most t) and writes. -/
def Exec (P : Program) (n : Nat) (all : Array Oper) (o : Oper) (g : Gm) (t : List Loc) (ws : List W) : Prop :=
  ∃ ls b, (guardV all o).Runs g ls b ∧ (∀ l ∈ ls, l ∈ t) ∧
    ((b = true ∧ ∃ ls2, VStep P n o g ls2 ws ∧ ∀ l ∈ ls2, l ∈ t) ∨ (b = false ∧ skipW n o ws))

theorem VStep.congr {P : Program} {n : Nat} {o : Oper} {g g' : Gm} {ls : List Loc} {ws : List W} (h : VStep P n o g ls ws) (hg : ∀ l ∈ ls, g' l = g l) : VStep P n o g' ls ws := by
  rcases h with ⟨h1, h2⟩ | ⟨f, ts, args, ds, mk, res, h1, h2, h3, h4⟩ | ⟨f, ts, args, mk, h1, h2, h3⟩
  · exact .inl ⟨h1, Rd.Runs_congr h2 hg⟩
  · exact .inr (.inl ⟨f, ts, args, ds, mk, res, h1, Rd.Runs_congr h2 hg, h3, h4⟩)
  · exact .inr (.inr ⟨f, ts, args, mk, h1, h2, Rd.Runs_congr h3 hg⟩)

theorem Exec.congr {P : Program} {n : Nat} {all : Array Oper} {o : Oper} {g g' : Gm} {t : List Loc} {ws : List W} (h : Exec P n all o g t ws) (hg : ∀ l ∈ t, g' l = g l) : Exec P n all o g' t ws := by
  obtain ⟨ls, b, h1, h2, h3⟩ := h
  refine ⟨ls, b, Rd.Runs_congr h1 (fun l hl => hg l (h2 l hl)), h2, ?_⟩
  rcases h3 with ⟨e, ls2, h4, h5⟩ | h3
  · exact .inl ⟨e, ls2, h4.congr (fun l hl => hg l (h5 l hl)), h5⟩
  · exact .inr h3

section
variable {P : Program} {cx : Cx} {a : Act} {w : World}

theorem VStep.sound {o : Oper} {g : Gm} {ls : List Loc} {ws : List W} (h : VStep P cx.n o g ls ws) (hS : Sim cx g a w) {K : Act → World → Prop} {Q : Exit → Act → World → Prop}
    (hk : ∀ a' w', Sim cx (apps g ws) a' w' → K a' w') : o.wp P a w K Q := by
  obtain ⟨G, hS⟩ := hS
  rcases h with ⟨_, h2⟩ | ⟨f, ts, args, ds, mk, res, h1, h2, h3, rfl⟩ | ⟨f, ts, args, mk, h1, h2, h3⟩
  · exact vop_sound hS h2 hk
  · exact vCall_sound (callOf_spec h1) hS h2 h3 hk
  · exact vCallM_sound (callOf_spec h1) hS h3 h2 hk

theorem Exec.sound {all : Array Oper} {o : Oper} {g : Gm} {t : List Loc} {ws : List W} (h : Exec P cx.n all o g t ws) (hS : Sim cx g a w) {K : Act → World → Prop} {Q : Exit → Act → World → Prop}
    (hk : ∀ a' w', Sim cx (apps g ws) a' w' → K a' w') :
    if Region.wanted o (yielded all a.tmps) then o.wp P a w K Q ∨ (o.asks P a w ∧ LetsOut Q) else K (a.put o.dst undef) w := by
  obtain ⟨ls, b, h1, _, h3⟩ := h
  obtain ⟨G, hG⟩ := id hS
  have hw := guardV_sound hG h1
  rcases h3 with ⟨rfl, ls2, h4, _⟩ | ⟨rfl, h3⟩
  · rw [if_pos hw]; exact .inl (h4.sound hS hk)
  · rw [if_neg (by rw [hw]; simp)]
    unfold skipW at h3
    cases hd : o.dst with
    | none =>
      simp only [hd] at h3
      subst h3
      exact hk _ _ (by simpa [Act.put, apps] using hS)
    | some d =>
      simp only [hd] at h3
      obtain ⟨hlt, rfl⟩ := h3
      refine hk _ _ ⟨G, ?_⟩
      exact hG.put hlt (by simp [ROk, AOk])

end

/-- What a write touches. -/
inductive WK where
  | reg (d : Nat)
  | leaf (r j : Nat)
  | root (r : Nat)
def keyOf : W → WK
  | .reg d _ => .reg d
  | .leaf r j _ => .leaf r j
  | .root r _ _ => .root r

/-- What each operation of a region has read and written, the last first. -/
abbrev Tr := List (List Loc × List WK)

/-- Is the operation wanted? The state says so from here on. -/
def guardO (all : Array Oper) (o : Oper) (σ : VS) (K : VS → List Loc → Bool → Prop) : Prop :=
  match o.guard with
  | none => K σ [] true
  | some (j, want) => match all[j]? with
    | some o' => match o'.dst with
      | some d => match get σ (.reg d) with
        | some (.r (.one (.v (.bool b)))) => caseB b (fun _ => K (.reg d (.one (.v (.bool true))) :: σ) [.reg d] (true == want)) (fun _ => K (.reg d (.one (.v (.bool false))) :: σ) [.reg d] (false == want))
        | some (.r (.one (.v (.tuple _)))) => K σ [.reg d] false
        | _ => False
      | none => False
    | none => False

section
variable (T : Tab) (O : Ops) (ct : Cts) (n : Nat)

def vseqO (all : Array Oper) : List Oper → VS → Tr → (VS → Tr → Prop) → Prop
  | [], σ, acc, K => K σ acc
  | o :: rest, σ, acc, K => guardO all o σ fun σ t b => match b with
    | true => (vopO T O ct n o).wpU (get σ) t fun t out => match out with
      | .ws ws => vseqO all rest (push σ ws) ((t, ws.map keyOf) :: acc) K
      | .call _ _ _ => False
    | false => match o.dst with
      | some d => if d < n then vseqO all rest (.reg d (.one (.v undef)) :: σ) ((t, [.reg d]) :: acc) K else False
      | none => vseqO all rest σ ((t, []) :: acc) K

end

/-- The operations, each at its place in text order. -/
inductive Run (P : Program) (n : Nat) (all : Array Oper) : List Oper → Gm → List (List Loc × List W) → Gm → Prop where
  | nil (g : Gm) : Run P n all [] g [] g
  | cons {o : Oper} {rest : List Oper} {g g' : Gm} {t : List Loc} {ws : List W} {xs : List (List Loc × List W)} : Exec P n all o g t ws → Run P n all rest (apps g ws) xs g' → Run P n all (o :: rest) g ((t, ws) :: xs) g'

theorem get_same {σ : VS} {d : Nat} {x : R} (h : get σ (.reg d) = some (.r x)) : get (.reg d x :: σ) = get σ := by
  funext l
  simp only [get, W.app]
  split
  · rename_i e; rw [e, h]
  · rfl

theorem guardO_spec {all : Array Oper} {o : Oper} {σ : VS} {K : VS → List Loc → Bool → Prop} (h : guardO all o σ K) :
    ∃ σ1 t b, get σ1 = get σ ∧ (guardV all o).Runs (get σ) t b ∧ K σ1 t b := by
  unfold guardO at h
  unfold guardV
  cases hg : o.guard with
  | none => simp only [hg] at h; exact ⟨σ, [], true, rfl, ⟨rfl, rfl⟩, h⟩
  | some jw =>
    obtain ⟨j, want⟩ := jw
    simp only [hg] at h ⊢
    cases ho : all[j]? with
    | none => simp [ho] at h
    | some o' =>
      simp only [ho, Option.bind_some] at h ⊢
      cases hd : o'.dst with
      | none => simp [hd] at h
      | some d =>
        simp only [hd] at h ⊢
        cases hx : get σ (.reg d) with
        | none => simp [hx] at h
        | some v =>
          cases v with
          | h x => simp [hx] at h
          | m a b => simp [hx] at h
          | r x => cases x with
            | agg as => simp [hx] at h
            | tup rs => simp [hx] at h
            | one a => cases a with
              | v y => cases y with
                | bool b =>
                  simp only [hx] at h
                  cases b with
                  | true => exact ⟨_, _, _, get_same hx, by simp [rdR, rd, Rd.Runs, hx], h⟩
                  | false => exact ⟨_, _, _, get_same hx, by simp [rdR, rd, Rd.Runs, hx], h⟩
                | tuple vs =>
                  simp only [hx] at h
                  exact ⟨σ, _, _, rfl, by simp [rdR, rd, Rd.Runs, hx], h⟩
                | _ => simp [hx] at h
              | _ => simp [hx] at h

theorem vseqO_run {P : Program} {T : Tab} (hT : TabOk P T) {ct : Cts} (hct : CtsOk P ct) {n : Nat} {all : Array Oper} : ∀ (ops : List Oper) (σ : VS) (acc : Tr) (K : VS → Tr → Prop), vseqO T stdO ct n all ops σ acc K →
    ∃ xs σ', Run P n all ops (get σ) xs (get σ') ∧ K σ' ((xs.map fun x => (x.1, x.2.map keyOf)).reverse ++ acc)
  | [], σ, acc, K, h => ⟨[], σ, .nil _, h⟩
  | o :: rest, σ, acc, K, h => by
    simp only [vseqO] at h
    obtain ⟨σ1, t, b, e1, h1, h2⟩ := guardO_spec h
    cases b with
    | true =>
      simp only at h2
      obtain ⟨ls2, out, t2, k1, k2, k3, k4⟩ := Rd.wpU_runs h2
      cases out with
      | call f ds mk => exact k2.elim
      | ws ws =>
        simp only at k2
        obtain ⟨xs, σ', m1, m2⟩ := vseqO_run hT hct rest _ _ _ k2
        rw [get_push] at m1
        rw [e1] at m1 k1
        refine ⟨(t2, ws) :: xs, σ', .cons ⟨t, true, h1, fun l hl => k4 l hl, .inl ⟨rfl, ls2, vop_step hT hct k1, k3⟩⟩ m1, ?_⟩
        simpa using m2
    | false =>
      simp only at h2
      cases hd : o.dst with
      | none =>
        simp only [hd] at h2
        obtain ⟨xs, σ', m1, m2⟩ := vseqO_run hT hct rest _ _ _ h2
        rw [e1] at m1
        refine ⟨(t, []) :: xs, σ', .cons ⟨t, false, h1, fun l hl => hl, .inr ⟨rfl, by simp [skipW, hd]⟩⟩ m1, ?_⟩
        simpa using m2
      | some d =>
        simp only [hd] at h2
        split at h2
        · rename_i hlt
          obtain ⟨xs, σ', m1, m2⟩ := vseqO_run hT hct rest _ _ _ h2
          have e2 : get (W.reg d (.one (.v undef)) :: σ1) = apps (get σ) [W.reg d (.one (.v undef))] := by
            simp only [get, apps, e1]
          rw [e2] at m1
          refine ⟨(t, [.reg d (.one (.v undef))]) :: xs, σ', .cons ⟨t, false, h1, fun l hl => hl, .inr ⟨rfl, by simp [skipW, hd, hlt]⟩⟩ m1, ?_⟩
          simpa [keyOf] using m2
        · exact h2.elim

theorem Run.text {P : Program} {cx : Cx} {all : Array Oper} {Q : Exit → Act → World → Prop} : ∀ {ops : List Oper} {g g' : Gm} {xs : List (List Loc × List W)} {a : Act} {w : World}, Run P cx.n all ops g xs g' → Sim cx g a w →
    (∀ a' w', Sim cx g' a' w' → Q .normal a' w') → wpList P all Q ops a w
  | _, _, _, _, a, w, .nil g, hS, hk => hk a w hS
  | _, _, _, _, a, w, .cons he hr, hS, hk => by
    simp only [wpList]
    exact he.sound hS (fun a' w' hs => hr.text hs hk)

end Go.V
