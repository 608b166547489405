/-
  The value-level condition generator, part 17: code and functions.
-/
import Derived.Test.YtlpkkliogonmnaaV16
set_option linter.all false

namespace Go.V

inductive Ex where
  | normal
  | exit (id : Nat)
  | ret

def exOf : Ex → Exit
  | .normal => .normal
  | .exit i => .exit i
  | .ret => .ret

section
variable {P : Program} {cx : Cx}

theorem wp_loop_ghost {α : Type} {c : Code} {Q : Exit → Act → World → Prop} (I : α → Act → World → Prop) (μ : α → Nat) {a : Act} {w : World} (s0 : α) (h₀ : I s0 a w)
    (round : ∀ s a w, I s a w → c.wp P (Exit.then (fun a' w' => ∃ s', I s' a' w' ∧ μ s' < μ s) Q) a w) : (Code.loop c).wp P Q a w := by
  intro b k cs
  have key : ∀ n s a w, μ s = n → I s a w → ∃ e a' w', Q e a' w' ∧ Arrives P (lone (b.at a (.code c :: .inLoop c :: k)) cs w) b k cs e a' w' := by
    intro n
    induction n using Nat.strongRecOn with
    | _ n ih =>
      intro s a w hn hI
      obtain ⟨e, a₁, w₁, hq, harr⟩ := round s a w hI b (.inLoop c :: k) cs
      cases e with
      | normal =>
        obtain ⟨s', hI₁, hlt⟩ := hq
        obtain ⟨e₂, a₂, w₂, hq₂, harr₂⟩ := ih (μ s') (hn ▸ hlt) s' a₁ w₁ rfl hI₁
        exact ⟨e₂, a₂, w₂, hq₂, .of_steps (Steps.trans harr (.one step_inLoop)) harr₂⟩
      | exit id => exact ⟨_, a₁, w₁, hq, .pass (x := .inLoop c) rfl (fun _ _ => .inl (by simp)) harr⟩
      | goto l => exact ⟨_, a₁, w₁, hq, .pass (x := .inLoop c) rfl (fun _ _ => .inl (by simp)) harr⟩
      | ret => exact ⟨_, a₁, w₁, hq, .pass (x := .inLoop c) rfl (fun _ _ => .inl (by simp)) harr⟩
      | panic ch => exact ⟨_, a₁, w₁, hq, .pass (x := .inLoop c) rfl (fun _ _ => .inl (by simp)) harr⟩
      | outgrown => exact ⟨_, a₁, w₁, hq, .pass (x := .inLoop c) rfl (fun _ _ => .inl (by simp)) harr⟩
  obtain ⟨e, a', w', hq, harr⟩ := key _ s0 a w rfl h₀
  exact ⟨e, a', w', hq, .of_steps (.one step_loop) harr⟩

end

/-! ### Functions -/

/-- What the arguments are in the registers. -/
def argR : DV → R
  | .one l => .one (roA l)
  | .agg ls => .agg (ls.map roA)
def initV : Nat → List DV → VS
  | _, [] => []
  | p, d :: ds => .reg p (argR d) :: initV (p + 1) ds

def resD {α : Type} (P : Program) (t : TypeId) (rv : ResultVar) (k : DV → List (Nat × Nat) → Rd α) : Rd α :=
  match tyI P t with
  | none => .fail
  | some ti =>
    let fin (as : List A) : Rd α := takeAll ti.slots as fun lts srcs => if ti.agg then k (.agg (lts.map (·.1))) srcs else match lts with
      | [(l, _)] => k (.one l) srcs
      | _ => .fail
    match rv with
    | .tmp x => rdR x fun r => match r with
      | .one a => if ti.agg then .fail else fin [a]
      | .agg as => if ti.agg then fin as else .fail
      | .tup _ => .fail
    | .cell x t' => if t' == t then rdR x fun r => match r with
      | .one (.pt r j) => loadLeaves r j ti.zero.length fin
      | _ => .fail
      else .fail
def resDs {α : Type} (P : Program) : List TypeId → List ResultVar → (List DV → List (Nat × Nat) → Rd α) → Rd α
  | [], [], k => k [] []
  | t :: ts, rv :: rvs, k => resD P t rv fun d src => resDs P ts rvs fun ds srcs => k (d :: ds) (src ++ srcs)
  | _, _, _ => .fail

end Go.V
