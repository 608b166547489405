/-
  The law FnForks returns true for every input, and its arguments read as they did: no condition.
-/
import Derived.Test.YtbfhhmjhdimjlaaRows
import Derived.Test.YtbfhhmjhdimjlaaElFk
set_option linter.all false
namespace Go.Proofs.Ytbfhhmjhdimjlaa
open Go.ChangeShapes Go.WideShapes Go.ChangeAt Go.RowKit Go.V
theorem Try.own : ownKnob Try.prog.godebug = none := by kernel_rfl
theorem Try.laidOut : laidOutB Try.prog = true := by kernel_rfl
set_option maxRecDepth 100000 in
theorem f_lifted (os : Os) (started : os.Started) (H : Type) (enc : TypeId × Value -> H) :
 ReturnsInHanded {} Try.checked os 9 .any (Rows.fnForksSpec.pre6 enc Try.prog Try.f9 Rows.fnForksRow.domain false) (Rows.fnForksSpec.post enc Try.prog Try.f9 false true false false) := by
 refine returnsInHanded_of_change (C := Try.checked) Try.own started (by kernel_rfl) Try.func9
  (ChangeSpec.witness6 (enc := enc) (C := Try.checked) false ⟨#[], #[.slice none 0 0], []⟩ 8 (by kernel_rfl) (by kernel_rfl) (by kernel_rfl) (by kernel_rfl)) ?_
 intro W base args ds gs before hval hW _ _
 exact law_calls (P := Try.prog) rfl (fun ds h => by match ds, h with | [d0], _ => rfl) rfl Try.underlying4 Try.laidOut (by kernel_rfl) (by kernel_rfl) r_FnForks hval hW
theorem fnForks_holds : Rows.FnForksSaid :=
 OpenClaim.holds_of_wide 9 Try.f9 rfl rfl rfl rfl rfl rfl rfl ⟨rfl, rfl, rfl, rfl, rfl⟩ rfl rfl rfl rfl rfl (by kernel_rfl) Try.func9 (by kernel_rfl)
  (of_decide_eq_true (by kernel_rfl)) (by unfold Func.isWrapper; first | (rw [if_pos (by decide +kernel)]; kernel_rfl) | (rw [if_neg (by decide +kernel)]; exact ⟨rfl, rfl⟩))
  (fun os started H enc _ => f_lifted os started H enc)
end Go.Proofs.Ytbfhhmjhdimjlaa