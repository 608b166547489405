/-
  The law FnExactRefFree returns true for every input, and its arguments read as they did: no condition.
-/
import Derived.Test.YtbfhhmjhdimjlaaRows
import Derived.Test.YtbfhhmjhdimjlaaErDk

set_option linter.all false
namespace Go.Proofs.Ytbfhhmjhdimjlaa
open Go.ChangeShapes Go.WideShapes Go.ChangeAt Go.RowKit Go.V

theorem Try.own : ownKnob Try.prog.godebug = none := by kernel_rfl
theorem Try.laidOut : laidOutB Try.prog = true := by kernel_rfl

set_option maxRecDepth 100000 in
theorem f_lifted (os : Os) (started : os.Started) (H : Type) (enc : TypeId × Value → H) :
    ReturnsInHanded {} Try.checked os 7 .any (Rows.fnExactRefFreeSpec.pre6 enc Try.prog Try.f7 Rows.fnExactRefFreeRow.domain false) (Rows.fnExactRefFreeSpec.post enc Try.prog Try.f7 false true false false) := by
  refine returnsInHanded_of_change (C := Try.checked) Try.own started (by kernel_rfl) Try.func7
    (ChangeSpec.witness6 (enc := enc) (C := Try.checked) false ⟨#[], #[.agg #[.int .i64 0, .slice none 0 0], .int .i64 0], []⟩ 8 (by kernel_rfl) (by kernel_rfl) (by kernel_rfl) (by kernel_rfl)) ?_
  intro W base args ds gs before hval hW _ _
  exact law_calls (P := Try.prog) rfl (fun ds h => by match ds, h with | [d0, d1], _ => rfl) rfl Try.underlying4 Try.laidOut (by kernel_rfl) (by kernel_rfl) r_FnExactRefFree hval hW

theorem fnExactRefFree_holds : Rows.FnExactRefFreeSaid :=
  OpenClaim.holds_of_wide 7 Try.f7 rfl rfl rfl rfl rfl rfl rfl ⟨rfl, rfl, rfl, rfl, rfl⟩ rfl rfl rfl rfl rfl (by kernel_rfl) Try.func7 (by kernel_rfl)
    (of_decide_eq_true (by kernel_rfl)) (by unfold Func.isWrapper; first | (rw [if_pos (by decide +kernel)]; kernel_rfl) | (rw [if_neg (by decide +kernel)]; exact ⟨rfl, rfl⟩))
    (fun os started H enc _ => f_lifted os started H enc)
end Go.Proofs.Ytbfhhmjhdimjlaa
