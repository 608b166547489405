/-
  The law FnExactHeapCollect returns true for every input, and its arguments read as they did: no condition.
-/
import Derived.Test.YtcodmgmliopheaaGreatRows
import Derived.Test.YtcodmgmliopheaaGreatXEoHt
set_option linter.all false
open Go
open ChangeSpec renaming witness6->agY
open OpenClaim renaming holds_of_wide->ag9
namespace Go.Proofs.YtcodmgmliopheaaGreat
open Go.ChangeShapes Go.WideShapes Go.ChangeAt Go.RowKit Go.V
theorem Tryz.own :ownKnob Tryz.prog.godebug=none:=by kernel_rfl
theorem Tryz.laidOut :laidOutB Tryz.prog=true:=by kernel_rfl
set_option maxRecDepth 100000 in
theorem AB (os:Os)(started:os.Started)(H:Type)(enc:TypeId×Value->H):
 ReturnsInHanded {} Tryz.checked os 8 .any (Rows.fnExactHeapCollectSpec.pre6 enc Tryz.prog Tryz.f8 Rows.fnExactHeapCollectRow.domain false) (Rows.fnExactHeapCollectSpec.post enc Tryz.prog Tryz.f8 false true false false):=by
 refine returnsInHanded_of_change (C:=Tryz.checked) Tryz.own started (by kernel_rfl) Tryz.func8
  (agY (enc:=enc) (C:=Tryz.checked) false ⟨#[], #[.agg #[.slice none 0 0,.slice none 0 0,.slice none 0 0,.int .i64 0,.slice none 0 0,.slice none 0 0,.slice none 0 0,.slice none 0 0,.slice none 0 0,.slice none 0 0,.slice none 0 0,.slice none 0 0,.int .i64 0,.slice none 0 0,.int .i64 0,.int .i64 0,.int .i64 0,.int .i64 0,.bool false,.int .i64 0,.int .i64 0,.slice none 0 0,.int .i64 0,.int .i64 0],.int .i64 0],[]⟩ 8 (by kernel_rfl) (by kernel_rfl) (by kernel_rfl) (by kernel_rfl)) ?_
 intro W base args ds gs before hval hW _ _;exact Dg (P:=Tryz.prog) rfl (fun ds h=>by match ds,h with|[d0,d1],_=>rfl) rfl Tryz.underlying4 Tryz.laidOut (by kernel_rfl) (by kernel_rfl) q7 hval hW
theorem a2 {a b:Bool}(h:a=true)(k:b=true):(a&&b)=true:=by rw[h,k];rfl
set_option maxRecDepth 100000 in
set_option maxHeartbeats 8000000 in
theorem AA :joinedFacts Tryz.prog 8 Tryz.f8 Rows.fnExactHeapCollectSpec Rows.fnExactHeapCollectRow=true:=by
 unfold joinedFacts
 repeat' with_reducible refine a2 ?_ ?_
 all_goals as_aux_lemma=>kernel_rfl
theorem fnExactHeapCollect_holds :Rows.FnExactHeapCollectSaid:=
 ag9 8 Tryz.f8 rfl rfl rfl rfl rfl rfl rfl ⟨rfl,rfl,rfl,rfl,rfl⟩ rfl rfl rfl rfl rfl (by kernel_rfl) Tryz.func8 AA
  (of_decide_eq_true (by kernel_rfl)) (by unfold Func.isWrapper;first|(rw[if_pos (by decide+kernel)];kernel_rfl)|(rw[if_neg (by decide+kernel)];exact⟨rfl,rfl⟩))
  (fun os started H enc _=>AB os started H enc)
end Go.Proofs.YtcodmgmliopheaaGreat