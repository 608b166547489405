/-
  The value-level condition generator, part 16: lists of operations, code, functions.
-/
import Derived.Test.YtlpkkliogonmnaaV15
set_option linter.all false

namespace Go.V

/-- The abstract state: the writes so far, the latest first. -/
abbrev VS := List W
def get : VS → Gm
  | [] => fun _ => none
  | x :: σ => x.app (get σ)
def push (σ : VS) : List W → VS
  | [] => σ
  | x :: ws => push (x :: σ) ws
theorem get_push : ∀ (ws : List W) (σ : VS), get (push σ ws) = apps (get σ) ws
  | [], σ => rfl
  | x :: ws, σ => by simp only [push, apps]; rw [get_push ws (x :: σ)]; rfl

theorem Rd.wp_runs {α : Type} {g : Gm} : ∀ {rd : Rd α} {K : α → Prop}, rd.wp g K → ∃ ls x, rd.Runs g ls x ∧ K x
  | .fail, K, h => h.elim
  | .ret b, K, h => ⟨[], b, ⟨rfl, rfl⟩, h⟩
  | .get l k, K, h => by
    obtain ⟨ls, x, h1, h2⟩ := Rd.wp_runs (rd := k (g l)) h
    exact ⟨l :: ls, x, ⟨ls, rfl, h1⟩, h2⟩
  | .req c k, K, h => by
    obtain ⟨ls, x, h1, h2⟩ := Rd.wp_runs (rd := k) h.2
    exact ⟨ls, x, ⟨h.1, h1⟩, h2⟩
  | .br b k1 k2, K, h => by
    cases b with
    | true => obtain ⟨ls, x, h1, h2⟩ := Rd.wp_runs (rd := k1) (h.1 rfl); exact ⟨ls, x, .inl ⟨rfl, h1⟩, h2⟩
    | false => obtain ⟨ls, x, h1, h2⟩ := Rd.wp_runs (rd := k2) (h.2 rfl); exact ⟨ls, x, .inr ⟨rfl, h1⟩, h2⟩

/-- Does an operation's guard let it run? -/
def guardV (all : Array Oper) (o : Oper) : Rd Bool :=
  match o.guard with
  | none => .ret true
  | some (j, want) => match (all[j]?).bind (·.dst) with
    | some d => rdR d fun r => match r with
      | .one (.v (.bool b)) => .br b (.ret (true == want)) (.ret (false == want))
      | .one (.v (.tuple _)) => .ret false
      | _ => .fail
    | none => .fail

def callOf (o : Oper) : Option (FuncId × Array TypeId × Array Operand) :=
  match o.op with
  | .call c => match c.callee with
    | .value (.func f) => some (f, c.argTypes, c.args)
    | _ => none
  | _ => none

section
variable {P : Program} {cx : Cx} {a : Act} {w : World} {σ : VS}

theorem guardV_sound {G : Gh} {g : Gm} (hS : SimG cx G g a w) {all : Array Oper} {o : Oper} {ls : List Loc} {b : Bool} (h : (guardV all o).Runs g ls b) : Region.wanted o (yielded all a.tmps) = b := by
  unfold guardV at h
  unfold Region.wanted
  cases hg : o.guard with
  | none => simp only [hg, Rd.Runs] at h; exact h.2.symm
  | some jw =>
    obtain ⟨j, want⟩ := jw
    simp only [hg] at h
    simp only
    split at h
    · rename_i d hd
      obtain ⟨r, ls', hr, hreg, h⟩ := rdR_sound hS h
      have hlt := (hS.reg d _ hreg).1
      have ht : a.tmps[d]? = some (a.tmps.getD d undef) := by
        rw [← hS.tm] at hlt
        simp [Array.getD_eq_getD_getElem?, hlt]
      split at h
      · rename_i bb
        simp only [ROk, AOk] at hr
        have hy : yielded all a.tmps j = some bb := by unfold yielded; rw [hd]; simp only [Option.bind_some, ht, hr]
        rw [hy]
        simp only [Rd.Runs] at h
        rcases h with ⟨rfl, _, rfl⟩ | ⟨rfl, _, rfl⟩ <;> cases want <;> rfl
      · simp only [ROk, AOk] at hr
        have hy : yielded all a.tmps j = none := by unfold yielded; rw [hd]; simp only [Option.bind_some, ht, hr]
        rw [hy]
        simp only [Rd.Runs] at h
        rw [h.2]; rfl
      · simp [Rd.Runs] at h
    · simp [Rd.Runs] at h

theorem callOf_spec {o : Oper} {f : FuncId} {ts : Array TypeId} {args : Array Operand} (h : callOf o = some (f, ts, args)) : o.op = .call { callee := .value (.func f), args := args, argTypes := ts } := by
  unfold callOf at h
  split at h
  · rename_i c hc
    obtain ⟨callee, as, ats⟩ := c
    simp only at h
    split at h
    · cases h
      exact hc
    · cases h
  · cases h

end

end Go.V
