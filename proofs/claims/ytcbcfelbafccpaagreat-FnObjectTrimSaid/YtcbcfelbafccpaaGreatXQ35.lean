/-
  The law FnObjectTrim returns true for every input, and its arguments read as they did: no condition.
-/
import Derived.Test.YtcbcfelbafccpaaGreatRows
import Derived.Test.YtcbcfelbafccpaaGreatXEqDw
set_option linter.all false
open Go
open ChangeSpec renaming witness6->Vw
open OpenClaim renaming holds_of_wide->Vx
namespace Go.Proofs.YtcbcfelbafccpaaGreat
open Go.ChangeShapes Go.WideShapes Go.ChangeAt Go.RowKit Go.V
theorem Tryz.own:ownKnob Tryz.prog.godebug=none:=by kernel_rfl
theorem Tryz.laidOut:laidOutB Tryz.prog=true:=by kernel_rfl
set_option maxRecDepth 100000 in
theorem Gz (os:Os)(started:os.Started)(H:Type)(enc:TypeId×Value->H):
 ReturnsInHanded {} Tryz.checked os 3 .any (Rows.fnObjectTrimSpec.pre6 enc Tryz.prog Tryz.f3 Rows.fnObjectTrimRow.domain false) (Rows.fnObjectTrimSpec.post enc Tryz.prog Tryz.f3 false true false false):=by
 refine returnsInHanded_of_change (C:=Tryz.checked) Tryz.own started (by kernel_rfl) Tryz.func3
  (Vw (enc:=enc) (C:=Tryz.checked) false ⟨#[], #[.slice none 0 0],[]⟩ 8 (by kernel_rfl) (by kernel_rfl) (by kernel_rfl) (by kernel_rfl)) ?_
 intro W base args ds gs before hval hW _ _;exact E5 (P:=Tryz.prog) rfl (fun ds h=>by match ds,h with|[d0],_=>rfl) rfl Tryz.underlying4 Tryz.laidOut (by kernel_rfl) (by kernel_rfl) vP hval hW
theorem a2 {a b:Bool}(h:a=true)(k:b=true):(a&&b)=true:=by rw[h,k];rfl
set_option maxRecDepth 100000 in
set_option maxHeartbeats 8000000 in
theorem Gy:joinedFacts Tryz.prog 3 Tryz.f3 Rows.fnObjectTrimSpec Rows.fnObjectTrimRow=true:=by
 unfold joinedFacts
 repeat' with_reducible refine a2 ?_ ?_
 all_goals as_aux_lemma=>kernel_rfl
theorem fnObjectTrim_holds:Rows.FnObjectTrimSaid:=
 Vx 3 Tryz.f3 rfl rfl rfl rfl rfl rfl rfl ⟨rfl,rfl,rfl,rfl,rfl⟩ rfl rfl rfl rfl rfl (by kernel_rfl) Tryz.func3 Gy
  (VL (by kernel_rfl)) (by unfold Func.isWrapper;first|(rw[VJ (by decide+kernel)];kernel_rfl)|(rw[VK (by decide+kernel)];exact⟨rfl,rfl⟩))
  (fun os started H enc _=>Gz os started H enc)
end Go.Proofs.YtcbcfelbafccpaaGreat