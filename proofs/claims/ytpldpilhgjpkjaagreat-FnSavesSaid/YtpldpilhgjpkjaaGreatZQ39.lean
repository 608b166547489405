/-
  The law FnSaves returns true for every input, and its arguments read as they did: no condition.
-/
import Derived.Test.YtpldpilhgjpkjaaGreatRows
import Derived.Test.YtpldpilhgjpkjaaGreatZEqCv
set_option linter.all false
open Go
open ChangeSpec renaming witness6->VA
open OpenClaim renaming holds_of_wide->VB
namespace Go.Proofs.YtpldpilhgjpkjaaGreat
open Go.ChangeShapes Go.WideShapes Go.ChangeAt Go.RowKit Go.V
theorem Tryz.own:ownKnob Tryz.prog.godebug=none:=by kernel_rfl
theorem Tryz.laidOut:laidOutB Tryz.prog=true:=by kernel_rfl
set_option maxRecDepth 100000 in
theorem JU (os:Os)(started:os.Started)(H:Type)(enc:TypeId×Value->H):
 ReturnsInHanded {} Tryz.checked os 6 .any (Rows.fnSavesSpec.pre6 enc Tryz.prog Tryz.f6 Rows.fnSavesRow.domain false) (Rows.fnSavesSpec.post enc Tryz.prog Tryz.f6 false true false false):=by
 refine returnsInHanded_of_change (C:=Tryz.checked) Tryz.own started (by kernel_rfl) Tryz.func6
  (VA (enc:=enc) (C:=Tryz.checked) false ⟨#[], #[.slice none 0 0],[]⟩ 8 (by kernel_rfl) (by kernel_rfl) (by kernel_rfl) (by kernel_rfl)) ?_
 intro W base args ds gs before hval hW _ _;exact Ih (P:=Tryz.prog) rfl (fun ds h=>by match ds,h with|[d0],_=>rfl) rfl Tryz.underlying4 Tryz.laidOut (by kernel_rfl) (by kernel_rfl) IA hval hW
theorem a2 {a b:Bool}(h:a=true)(k:b=true):(a&&b)=true:=by rw[h,k];rfl
set_option maxRecDepth 100000 in
set_option maxHeartbeats 8000000 in
theorem JS:joinedFacts Tryz.prog 6 Tryz.f6 Rows.fnSavesSpec Rows.fnSavesRow=true:=by
 unfold joinedFacts
 repeat' with_reducible refine a2 ?_ ?_
 all_goals as_aux_lemma=>kernel_rfl
theorem fnSaves_holds:Rows.FnSavesSaid:=
 VB 6 Tryz.f6 rfl rfl rfl rfl rfl rfl rfl ⟨rfl,rfl,rfl,rfl,rfl⟩ rfl rfl rfl rfl rfl (by kernel_rfl) Tryz.func6 JS
  (VQ (by kernel_rfl)) (by unfold Func.isWrapper;first|(rw[VO (by decide+kernel)];kernel_rfl)|(rw[VP (by decide+kernel)];exact⟨rfl,rfl⟩))
  (fun os started H enc _=>JU os started H enc)
end Go.Proofs.YtpldpilhgjpkjaaGreat