/- Contracts. -/
import Derived.Test.YtcodmgmliopheaaGreatXHoLt
set_option linter.all false
open Go
open True renaming intro->ac2
namespace Go.V
open Go Go.Proofs
set_option maxRecDepth 1000000
set_option maxHeartbeats 8000000
abbrev Zr0 :cW:=eF (fun F f=>match f with|245=>dJ F|172=>cL F|141=>cL F|89=>aj F|_=>fun _=>none) (by
 intro f;dsimp only;split;exact fm;exact lN;exact lT;exact bC;exact cX)
def dK :EC:=fun F=>fun
 |[.agg [.s 1 ls],.one (.v (.int .i64 k))]=>some (fun _=>TC ls,[.k (F.clB ls k)])
 |_=>none
theorem qC :ec 221 dK:=by
 intro _ _ _ h hp;dsimp only[dK,F0]at h;split at h<;>cases h
 rename_i ls k;refine cb Zr0 Tryz.func221 ?_
 exact aaM
theorem tR :ec 327 dK:=by
 intro _ _ _ h hp;dsimp only[dK,F0]at h;split at h<;>cases h
 rename_i ls k;refine cb Zr0 Tryz.func327 ?_
 exact aaM
abbrev Zs0 :cW:=eF (fun F f=>match f with|91=>aj F|55=>ff F|_=>fun _=>none) (by
 intro f;dsimp only;split;exact bu;exact rY;exact cX)
theorem qB :ec 95 eU:=by
 intro _ _ _ h hp;dsimp only[eU,F0,hL]at h;split at h;rotate_left;cases h;split at h<;>cases h
 rename_i t _ a0 a1 a2 a3 a4 a5 a6 a7 a8 a9 aA aB aC aD aE aF aG aH aI aJ aK aL aM aN;have l9:=av (es:=a9);have c9:=hp.c9;have e1:bR .sub .i64 (a9.length:Int) 1=a9.length-1:=dD (by omega);refine cb Zs0 Tryz.func95 ?_
 intro O r F hO hr hF;cbv
 repeat' first|apply And.intro|(apply bD<;>intro hb<;>cbv)
 all_goals(subst hO hr hF;(try simp only[nc]at*);(try simp only[ah,SS,sa,az]at*);(try simp only[e1]at*))
 all_goals first
  | (show(_:List DV)=_
     first
      |exact ai (aal (by assumption)).symm
      |exact ai (aam (by omega)).symm
      |exact ai (Te (by assumption) (by omega)).symm
      |exact ai (Te (by assumption) (by assumption)).symm
      |done)
  | (show(_:List H)=_
     first
      |done)
  |omega
  |exact gp
  |exact hp
  |exact hp.hp
  |(show aP _ _=true;kernel_rfl)
  |exact⟨ac2,ac2⟩
  |exact ac2
  |done
end Go.V