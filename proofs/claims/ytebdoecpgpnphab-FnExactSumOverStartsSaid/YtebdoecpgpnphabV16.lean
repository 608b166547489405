/-
  The value-level condition generator, part 16: lists of operations, code, functions.
-/
import Derived.Test.YtebdoecpgpnphabV15
set_option linter.all false

namespace Go.V

/-- The abstract state: the writes so far, the latest first. -/
abbrev VS := List W
def get : VS → Gm
  | [] => fun _ => none
  | x :: σ => x.app (get σ)
def push (σ : VS) : List W → VS
  | [] => σ
  | x :: ws => push (x :: σ) ws
theorem get_push : ∀ (ws : List W) (σ : VS), get (push σ ws) = apps (get σ) ws
  | [], σ => rfl
  | x :: ws, σ => by simp only [push, apps]; rw [get_push ws (x :: σ)]; rfl

theorem Rd.wp_runs {α : Type} {g : Gm} : ∀ {rd : Rd α} {K : α → Prop}, rd.wp g K → ∃ ls x, rd.Runs g ls x ∧ K x
  | .fail, K, h => h.elim
  | .ret b, K, h => ⟨[], b, ⟨rfl, rfl⟩, h⟩
  | .get l k, K, h => by
    obtain ⟨ls, x, h1, h2⟩ := Rd.wp_runs (rd := k (g l)) h
    exact ⟨l :: ls, x, ⟨ls, rfl, h1⟩, h2⟩
  | .req c k, K, h => by
    obtain ⟨ls, x, h1, h2⟩ := Rd.wp_runs (rd := k) h.2
    exact ⟨ls, x, ⟨h.1, h1⟩, h2⟩
  | .br b k1 k2, K, h => by
    cases b with
    | true => obtain ⟨ls, x, h1, h2⟩ := Rd.wp_runs (rd := k1) (h.1 rfl); exact ⟨ls, x, .inl ⟨rfl, h1⟩, h2⟩
    | false => obtain ⟨ls, x, h1, h2⟩ := Rd.wp_runs (rd := k2) (h.2 rfl); exact ⟨ls, x, .inr ⟨rfl, h1⟩, h2⟩

/-- Does an operation's guard let it run? -/
def guardV (all : Array Oper) (o : Oper) : Rd Bool :=
  match o.guard with
  | none => .ret true
  | some (j, want) => match (all[j]?).bind (·.dst) with
    | some d => rdR d fun r => match r with
      | .one (.v (.bool b)) => .br b (.ret (true == want)) (.ret (false == want))
      | .one (.v (.tuple _)) => .ret false
      | _ => .fail
    | none => .fail

def callOf (o : Oper) : Option (FuncId × Array TypeId × Array Operand) :=
  match o.op with
  | .call c => match c.callee with
    | .value (.func f) => some (f, c.argTypes, c.args)
    | _ => none
  | _ => none

def vone (P : Program) (n : Nat) (o : Oper) (σ : VS) (K : VS → Prop) : Prop :=
  match callOf o with
  | some (f, ts, args) => (vCall P n o.dst f ts args).wp (get σ) fun out => match out with
    | .call f ds mk => ∃ res, Ctr P f ds res ∧ K (push σ (mk res))
    | .ws _ => False
  | none => (vop P n o).wp (get σ) fun out => match out with
    | .ws ws => K (push σ ws)
    | .call _ _ _ => False

def vskip (n : Nat) (o : Oper) (σ : VS) (K : VS → Prop) : Prop :=
  match o.dst with
  | some d => d < n ∧ K (.reg d (.one (.v undef)) :: σ)
  | none => K σ

def vseq (P : Program) (n : Nat) (all : Array Oper) : List Oper → VS → (VS → Prop) → Prop
  | [], σ, K => K σ
  | o :: rest, σ, K => (guardV all o).wp (get σ) fun b => match b with
    | true => vone P n o σ fun σ' => vseq P n all rest σ' K
    | false => vskip n o σ fun σ' => vseq P n all rest σ' K

section
variable {P : Program} {cx : Cx} {a : Act} {w : World} {σ : VS}

theorem guardV_sound {G : Gh} {g : Gm} (hS : SimG cx G g a w) {all : Array Oper} {o : Oper} {ls : List Loc} {b : Bool} (h : (guardV all o).Runs g ls b) : Region.wanted o (yielded all a.tmps) = b := by
  unfold guardV at h
  unfold Region.wanted
  cases hg : o.guard with
  | none => simp only [hg, Rd.Runs] at h; exact h.2.symm
  | some jw =>
    obtain ⟨j, want⟩ := jw
    simp only [hg] at h
    simp only
    split at h
    · rename_i d hd
      obtain ⟨r, ls', hr, hreg, h⟩ := rdR_sound hS h
      have hlt := (hS.reg d _ hreg).1
      have ht : a.tmps[d]? = some (a.tmps.getD d undef) := by
        rw [← hS.tm] at hlt
        simp [Array.getD_eq_getD_getElem?, hlt]
      split at h
      · rename_i bb
        simp only [ROk, AOk] at hr
        have hy : yielded all a.tmps j = some bb := by unfold yielded; rw [hd]; simp only [Option.bind_some, ht, hr]
        rw [hy]
        simp only [Rd.Runs] at h
        rcases h with ⟨rfl, _, rfl⟩ | ⟨rfl, _, rfl⟩ <;> cases want <;> rfl
      · simp only [ROk, AOk] at hr
        have hy : yielded all a.tmps j = none := by unfold yielded; rw [hd]; simp only [Option.bind_some, ht, hr]
        rw [hy]
        simp only [Rd.Runs] at h
        rw [h.2]; rfl
      · simp [Rd.Runs] at h
    · simp [Rd.Runs] at h

theorem callOf_spec {o : Oper} {f : FuncId} {ts : Array TypeId} {args : Array Operand} (h : callOf o = some (f, ts, args)) : o.op = .call { callee := .value (.func f), args := args, argTypes := ts } := by
  unfold callOf at h
  split at h
  · rename_i c hc
    obtain ⟨callee, as, ats⟩ := c
    simp only at h
    split at h
    · cases h
      exact hc
    · cases h
  · cases h

theorem vCall_f {g : Gm} {n : Nat} {d : Option Tmp} {f : FuncId} {ts : Array TypeId} {args : Array Operand} {G : Gh} (hS : SimG cx G g a w) {ls : List Loc} {f' : FuncId} {ds : List DV} {mk : List DV → List W} (h : (vCall P n d f ts args).Runs g ls (.call f' ds mk)) : f' = f := by
  unfold vCall at h
  split at h
  · obtain ⟨ds', ls1, _, h⟩ := argDs_sound hS _ _ _ _ _ h
    obtain ⟨d, ls2, _, _, _, h⟩ := fresh_sound h
    simp only [Rd.Runs, Out.call.injEq] at h
    exact h.2.1
  · simp [Rd.Runs] at h

theorem vone_sound {n : Nat} {o : Oper} {K : VS → Prop} (hn : n = cx.n) (h : vone P n o σ K) (hS : Sim cx (get σ) a w) {K' : Act → World → Prop} {Q : Exit → Act → World → Prop}
    (hk : ∀ σ' a' w', K σ' → Sim cx (get σ') a' w' → K' a' w') : o.wp P a w K' Q := by
  obtain ⟨G, hS⟩ := hS
  subst hn
  unfold vone at h
  split at h
  · rename_i f ts args hc
    obtain ⟨ls, out, h1, h2⟩ := Rd.wp_runs h
    cases out with
    | ws ws => exact h2.elim
    | call f' ds mk =>
      obtain ⟨res, hctr, h3⟩ := h2
      obtain rfl := vCall_f hS h1
      exact vCall_sound (callOf_spec hc) hS h1 hctr (fun a' w' hs => hk _ a' w' h3 (by rw [get_push]; exact hs))
  · obtain ⟨ls, out, h1, h2⟩ := Rd.wp_runs h
    cases out with
    | ws ws => exact vop_sound hS h1 (fun a' w' hs => hk _ a' w' h2 (by rw [get_push]; exact hs))
    | call f' ds mk => exact h2.elim

theorem vskip_sound {n : Nat} {o : Oper} {K : VS → Prop} (hn : n = cx.n) (h : vskip n o σ K) (hS : Sim cx (get σ) a w) : ∃ σ', K σ' ∧ Sim cx (get σ') (a.put o.dst undef) w := by
  obtain ⟨G, hS⟩ := hS
  unfold vskip at h
  cases hd : o.dst with
  | none => simp only [hd] at h; exact ⟨σ, h, G, by simpa [Act.put] using hS⟩
  | some d =>
    simp only [hd] at h
    refine ⟨_, h.2, G, ?_⟩
    exact hS.put (by rw [← hn]; exact h.1) (by simp [ROk, AOk])

theorem vseq_sound {n : Nat} (hn : n = cx.n) {all : Array Oper} {Q : Exit → Act → World → Prop} : ∀ (ops : List Oper) (σ : VS) (K : VS → Prop) (a : Act) (w : World), vseq P n all ops σ K → Sim cx (get σ) a w →
    (∀ σ' a' w', K σ' → Sim cx (get σ') a' w' → Q .normal a' w') → wpList P all Q ops a w
  | [], σ, K, a, w, h, hS, hk => hk σ a w h hS
  | o :: rest, σ, K, a, w, h, hS, hk => by
    obtain ⟨G, hG⟩ := id hS
    obtain ⟨ls, b, h1, h2⟩ := Rd.wp_runs h
    have hw := guardV_sound hG h1
    simp only [wpList]
    cases b with
    | true =>
      rw [if_pos hw]
      exact .inl (vone_sound hn h2 hS (fun σ' a' w' hk' hs => vseq_sound hn rest σ' K a' w' hk' hs hk))
    | false =>
      rw [if_neg (by rw [hw]; simp)]
      obtain ⟨σ', k1, k2⟩ := vskip_sound hn h2 hS
      exact vseq_sound hn rest σ' K _ w k1 k2 hk
end

end Go.V
