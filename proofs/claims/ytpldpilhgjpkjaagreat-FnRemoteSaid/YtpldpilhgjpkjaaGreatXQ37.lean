/-
  The law FnRemote returns true for every input, and its arguments read as they did: no condition.
-/
import Derived.Test.YtpldpilhgjpkjaaGreatRows
import Derived.Test.YtpldpilhgjpkjaaGreatXEqBv
set_option linter.all false
open Go
open ChangeSpec renaming witness6->VE
open OpenClaim renaming holds_of_wide->VF
namespace Go.Proofs.YtpldpilhgjpkjaaGreat
open Go.ChangeShapes Go.WideShapes Go.ChangeAt Go.RowKit Go.V
theorem Tryz.own:ownKnob Tryz.prog.godebug=none:=by kernel_rfl
theorem Tryz.laidOut:laidOutB Tryz.prog=true:=by kernel_rfl
set_option maxRecDepth 100000 in
theorem HT (os:Os)(started:os.Started)(H:Type)(enc:TypeId×Value->H):
 ReturnsInHanded {} Tryz.checked os 5 .any (Rows.fnRemoteSpec.pre6 enc Tryz.prog Tryz.f5 Rows.fnRemoteRow.domain false) (Rows.fnRemoteSpec.post enc Tryz.prog Tryz.f5 false true false false):=by
 refine returnsInHanded_of_change (C:=Tryz.checked) Tryz.own started (by kernel_rfl) Tryz.func5
  (VE (enc:=enc) (C:=Tryz.checked) false ⟨#[], #[.slice none 0 0],[]⟩ 8 (by kernel_rfl) (by kernel_rfl) (by kernel_rfl) (by kernel_rfl)) ?_
 intro W base args ds gs before hval hW _ _;exact Gl (P:=Tryz.prog) rfl (fun ds h=>by match ds,h with|[d0],_=>rfl) rfl Tryz.underlying4 Tryz.laidOut (by kernel_rfl) (by kernel_rfl) D2 hval hW
theorem a2 {a b:Bool}(h:a=true)(k:b=true):(a&&b)=true:=by rw[h,k];rfl
set_option maxRecDepth 100000 in
set_option maxHeartbeats 8000000 in
theorem HS:joinedFacts Tryz.prog 5 Tryz.f5 Rows.fnRemoteSpec Rows.fnRemoteRow=true:=by
 unfold joinedFacts
 repeat' with_reducible refine a2 ?_ ?_
 all_goals as_aux_lemma=>kernel_rfl
theorem fnRemote_holds:Rows.FnRemoteSaid:=
 VF 5 Tryz.f5 rfl rfl rfl rfl rfl rfl rfl ⟨rfl,rfl,rfl,rfl,rfl⟩ rfl rfl rfl rfl rfl (by kernel_rfl) Tryz.func5 HS
  (VV (by kernel_rfl)) (by unfold Func.isWrapper;first|(rw[VT (by decide+kernel)];kernel_rfl)|(rw[VU (by decide+kernel)];exact⟨rfl,rfl⟩))
  (fun os started H enc _=>HT os started H enc)
end Go.Proofs.YtpldpilhgjpkjaaGreat