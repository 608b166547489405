/-
  The law FnExactHeapAlloc returns true for every input, and its arguments read as they did: no condition.
-/
import Derived.Test.YtbedjnlfdopeeaaGreatRows
import Derived.Test.YtbedjnlfdopeeaaGreatYEoKu
set_option linter.all false
open Go
open ChangeSpec renaming witness6->VF
open IntKind renaming i64->Za
open OpenClaim renaming holds_of_wide->VG
namespace Go.Proofs.YtbedjnlfdopeeaaGreat
open Go.ChangeShapes Go.WideShapes Go.ChangeAt Go.RowKit Go.V
theorem Tryz.own:ownKnob Tryz.prog.godebug=none:=by kernel_rfl
theorem Tryz.laidOut:laidOutB Tryz.prog=true:=by kernel_rfl
set_option maxRecDepth 100000 in
theorem Lm (os:Os)(started:os.Started)(H:Type)(enc:TypeId×Value->H):
 ReturnsInHanded {} Tryz.checked os 5 .any (Rows.fnExactHeapAllocSpec.pre6 enc Tryz.prog Tryz.f5 Rows.fnExactHeapAllocRow.domain false) (Rows.fnExactHeapAllocSpec.post enc Tryz.prog Tryz.f5 false true false false):=by
 refine returnsInHanded_of_change (C:=Tryz.checked) Tryz.own started (by kernel_rfl) Tryz.func5
  (VF (enc:=enc) (C:=Tryz.checked) false ⟨#[], #[.agg #[.slice none 0 0,.slice none 0 0,.slice none 0 0,.int Za 0,.slice none 0 0,.slice none 0 0,.slice none 0 0,.slice none 0 0,.slice none 0 0,.slice none 0 0,.slice none 0 0,.slice none 0 0,.int Za 0,.slice none 0 0,.int Za 0,.int Za 0,.int Za 0,.int Za 0,.bool false,.int Za 0,.int Za 0,.slice none 0 0,.int Za 0,.int Za 0],.int Za 0,.int Za 0],[]⟩ 8 (by kernel_rfl) (by kernel_rfl) (by kernel_rfl) (by kernel_rfl)) ?_
 intro W base args ds gs before hval hW _ _;exact JW (P:=Tryz.prog) rfl (fun ds h=>by match ds,h with|[d0,d1,d2],_=>rfl) rfl Tryz.underlying4 Tryz.laidOut (by kernel_rfl) (by kernel_rfl) s7 hval hW
theorem a2 {a b:Bool}(h:a=true)(k:b=true):(a&&b)=true:=by rw[h,k];rfl
set_option maxRecDepth 100000 in
set_option maxHeartbeats 8000000 in
theorem Ll:joinedFacts Tryz.prog 5 Tryz.f5 Rows.fnExactHeapAllocSpec Rows.fnExactHeapAllocRow=true:=by
 unfold joinedFacts
 repeat' with_reducible refine a2 ?_ ?_
 all_goals as_aux_lemma=>kernel_rfl
theorem fnExactHeapAlloc_holds:Rows.FnExactHeapAllocSaid:=
 VG 5 Tryz.f5 rfl rfl rfl rfl rfl rfl rfl ⟨rfl,rfl,rfl,rfl,rfl⟩ rfl rfl rfl rfl rfl (by kernel_rfl) Tryz.func5 Ll
  (VU (by kernel_rfl)) (by unfold Func.isWrapper;first|(rw[VR (by decide+kernel)];kernel_rfl)|(rw[VT (by decide+kernel)];exact⟨rfl,rfl⟩))
  (fun os started H enc _=>Lm os started H enc)
end Go.Proofs.YtbedjnlfdopeeaaGreat