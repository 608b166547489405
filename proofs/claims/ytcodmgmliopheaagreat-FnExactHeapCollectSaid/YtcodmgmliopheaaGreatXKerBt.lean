/- Contracts. -/
import Derived.Test.YtcodmgmliopheaaGreatXKerAt
set_option linter.all false
open Go
open And renaming intro->By
namespace Go.V
open Go Go.Proofs
set_option maxRecDepth 1000000
set_option maxHeartbeats 8000000
abbrev N3 :cW:=eF (fun F f=>match f with|91=>aj F|89=>aj F|284=>eb F|263=>eb F|_=>fun _=>none) (by
 intro f;dsimp only;split;exact bu;exact bC;exact vf;exact vG;exact cX)
def dj :EC:=fun F=>fun
 |[.agg [.s 1 cs,.s 1 us,.s 2 es,.v (.int .i64 c),.s 1 rs]]=>some (fun _=>Rw [.sl [tI]] cs/\Rw [tB] us/\Rw [tI,tI] es/\Rw [tI] rs,[.k (F.kerOk cs us es c rs)])
 |_=>none
theorem pN :ec 166 dj:=by
 intro _ _ _ h hp;dsimp only[dj,F0]at h;split at h<;>cases h
 rename_i cs us es c rs;obtain⟨hc,hu,ht,hr⟩:=hp;have hm:=hr.1;unfold maxLen at hm;refine cb N3 Tryz.func166 ?_
 intro O r F hO hr hF;cbv
 repeat' first|apply By|(apply bD<;>intro hb<;>cbv)|(refine⟨[1,6,7,8],[1],Int,fun i=>[.reg 8 (.j i)],fun i=>0<=i/\i<=((rs.length:Nat):Int)/\upto (GA rs) i,fun i=>(rs.length)-i.toNat,⟨0,?_,?_⟩,?_⟩;rotate_left;(focus (cbv;done));intro i hi;replace hi:0<=i/\i<=((rs.length:Nat):Int)/\upto (GA rs) i:=hi;obtain⟨i0,i1,i2⟩:=hi;cbv)|(refine ab (O.ar .add .i64 i 1) ?_ ?_ ?_;focus (cbv;done))
 all_goals(subst hO hr hF;(try simp only[nc]at*);(try simp only[ah,SS,sa,az]at*);(try rw[di (by omega) (by omega)]))
 all_goals first
  | (show(_:List DV)=_
     first
      |exact ai (NW i0 (by assumption) (by assumption)).symm
      |exact ai (Jy (by assumption)).symm
      |exact ai (PU (Qi (by omega))).symm
      |(refine ai ?_;unfold kerOk;rw[show inR c 0 100000=true from by assumption,Qj i2 (by omega) (by omega)];simp)
      |done)
  |omega
  |exact gp
  |exact bM
  |exact bj i2 (NV (by omega))
  |exact⟨hc,hu,ht⟩
  |trace_state
theorem pW :ec 134 dj:=by
 intro _ _ _ h hp;dsimp only[dj,F0]at h;split at h<;>cases h
 rename_i cs us es c rs;obtain⟨hc,hu,ht,hr⟩:=hp;have hm:=hr.1;unfold maxLen at hm;refine cb N3 Tryz.func134 ?_
 intro O r F hO hr hF;cbv
 repeat' first|apply By|(apply bD<;>intro hb<;>cbv)|(refine⟨[1,3],[1],Int,fun i=>[.reg 3 (.j i)],fun i=>0<=i/\i<=((rs.length:Nat):Int)/\upto (GA rs) i,fun i=>(rs.length)-i.toNat,⟨0,?_,?_⟩,?_⟩;rotate_left;(focus (cbv;done));intro i hi;replace hi:0<=i/\i<=((rs.length:Nat):Int)/\upto (GA rs) i:=hi;obtain⟨i0,i1,i2⟩:=hi;cbv)|(refine ab (O.ar .add .i64 i 1) ?_ ?_ ?_;focus (cbv;done))
 all_goals(subst hO hr hF;(try simp only[nc]at*);(try simp only[ah,SS,sa,az]at*);(try rw[di (by omega) (by omega)]))
 all_goals first
  | (show(_:List DV)=_
     first
      |exact ai (NW i0 (by assumption) (by assumption)).symm
      |exact ai (PS (by assumption)).symm
      |exact ai (Jy (by assumption)).symm
      |(refine ai ?_;unfold kerOk q8;rw[show machOk cs us es=true from by assumption,show inR c 0 100000=true from by assumption,bN i2 (by omega)];refine gY ?_;simp only[SS,Bool.true_and,decide_eq_true_eq];omega)
      |done)
  |omega
  |exact gp
  |exact bM
  |exact bj i2 (NV (by omega))
  |exact⟨hc,hu,ht⟩
  |trace_state
end Go.V