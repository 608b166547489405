/-
  The law FnExactMeshAll returns true for every input, and its arguments read as they did: no condition.
-/
import Derived.Test.YtpldpilhgjpkjaaGreatRows
import Derived.Test.YtpldpilhgjpkjaaGreatWEoMv
set_option linter.all false
open Go
open ChangeSpec renaming witness6->Vq
open IntKind renaming i64->Za
open OpenClaim renaming holds_of_wide->Vr
namespace Go.Proofs.YtpldpilhgjpkjaaGreat
open Go.ChangeShapes Go.WideShapes Go.ChangeAt Go.RowKit Go.V
theorem Tryz.own:ownKnob Tryz.prog.godebug=none:=by kernel_rfl
theorem Tryz.laidOut:laidOutB Tryz.prog=true:=by kernel_rfl
set_option maxRecDepth 100000 in
theorem Mr (os:Os)(started:os.Started)(H:Type)(enc:TypeId×Value->H):
 ReturnsInHanded {} Tryz.checked os 7 .any (Rows.fnExactMeshAllSpec.pre6 enc Tryz.prog Tryz.f7 Rows.fnExactMeshAllRow.domain false) (Rows.fnExactMeshAllSpec.post enc Tryz.prog Tryz.f7 false true false false):=by
 refine returnsInHanded_of_change (C:=Tryz.checked) Tryz.own started (by kernel_rfl) Tryz.func7
  (Vq (enc:=enc) (C:=Tryz.checked) false ⟨#[], #[.agg #[.slice none 0 0,.slice none 0 0,.slice none 0 0,.int Za 0,.slice none 0 0,.slice none 0 0,.slice none 0 0,.slice none 0 0,.slice none 0 0,.slice none 0 0,.slice none 0 0,.slice none 0 0,.int Za 0,.slice none 0 0,.int Za 0,.int Za 0,.int Za 0,.int Za 0,.bool false,.int Za 0,.int Za 0,.slice none 0 0,.int Za 0,.int Za 0],.int Za 0],[]⟩ 8 (by kernel_rfl) (by kernel_rfl) (by kernel_rfl) (by kernel_rfl)) ?_
 intro W base args ds gs before hval hW _ _;exact K6 (P:=Tryz.prog) rfl (fun ds h=>by match ds,h with|[d0,d1],_=>rfl) rfl Tryz.underlying4 Tryz.laidOut (by kernel_rfl) (by kernel_rfl) ww hval hW
theorem a2 {a b:Bool}(h:a=true)(k:b=true):(a&&b)=true:=by rw[h,k];rfl
set_option maxRecDepth 100000 in
set_option maxHeartbeats 8000000 in
theorem Mq:joinedFacts Tryz.prog 7 Tryz.f7 Rows.fnExactMeshAllSpec Rows.fnExactMeshAllRow=true:=by
 unfold joinedFacts
 repeat' with_reducible refine a2 ?_ ?_
 all_goals as_aux_lemma=>kernel_rfl
theorem fnExactMeshAll_holds:Rows.FnExactMeshAllSaid:=
 Vr 7 Tryz.f7 rfl rfl rfl rfl rfl rfl rfl ⟨rfl,rfl,rfl,rfl,rfl⟩ rfl rfl rfl rfl rfl (by kernel_rfl) Tryz.func7 Mq
  (VG (by kernel_rfl)) (by unfold Func.isWrapper;first|(rw[VE (by decide+kernel)];kernel_rfl)|(rw[VF (by decide+kernel)];exact⟨rfl,rfl⟩))
  (fun os started H enc _=>Mr os started H enc)
end Go.Proofs.YtpldpilhgjpkjaaGreat