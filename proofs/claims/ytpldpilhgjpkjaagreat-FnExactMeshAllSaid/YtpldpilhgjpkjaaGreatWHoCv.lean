/- Contracts. -/
import Derived.Test.YtpldpilhgjpkjaaGreatWM3
set_option linter.all false
open Go
open And renaming intro->Zb
open IntKind renaming i64->Za
namespace Go.V
open Go Go.Proofs
set_option maxRecDepth 1000000
set_option maxHeartbeats 8000000
abbrev Ka0:cT:=dG (fun F f=>match f with|60=>dh F|201=>dh F|359=>bM F|_=>fun _=>none) (by
 intro f;dsimp only;split;exact qq;exact qB;exact gH;exact cX)
def cZ:EC:=fun F=>fun
 |[.agg [.s 1 cs,.s 1 us,.s 2 es,.v (.int Za c),.s 1 rs]]=>some (fun _=>Rw [.sl [tI]] cs/\Rw [tB] us/\Rw [tI,tI] es/\Rw [tI] rs,[.k (F.ccB cs us es c rs)])
 |_=>none
def lO:ec 269 cZ:=by
 intro _ _ _ h hp;dsimp only[cZ,F0]at h;split at h<;>cases h
 rename_i cs us es c rs;refine cb Ka0 Tryz.func269 ?_
 intro O r F hO hr hF;cbv
 repeat' first|apply Zb|(apply bC<;>intro hb<;>cbv)
 all_goals(subst hO hr hF;(try simp only[nc]at*);(try simp only[ah,SS,sa,az]at*))
 all_goals first
  | (show(_:List DV)=_
     first
      |exact aj (acO Uc).symm
      |exact aj (acP Uc).symm
      |done)
  |exact hp
  |(show ay _ _=true;kernel_rfl)
  |done
def sQ:ec 397 cZ:=by
 intro _ _ _ h hp;dsimp only[cZ,F0]at h;split at h<;>cases h
 rename_i cs us es c rs;refine cb Ka0 Tryz.func397 ?_
 intro O r F hO hr hF;cbv
 repeat' first|apply Zb|(apply bC<;>intro hb<;>cbv)
 all_goals(subst hO hr hF;(try simp only[nc]at*);(try simp only[ah,SS,sa,az]at*))
 all_goals first
  | (show(_:List DV)=_
     first
      |exact aj (acQ Ud).symm
      |exact aj (acR Ud)
      |done)
  |exact hp
  |(show ay _ _=true;kernel_rfl)
  |done
def gw:EC:=fun F=>fun
 |[.ptr [.s 1 cs,.s 1 us,.s 2 es,.v (.int Za c),.s 1 rs],.one (.v (.int Za p))]=>some (fun _=>Rw [tI,tI] es,[.j (F.peM es p)])
 |_=>none
def lV:ec 398 gw:=by
 intro _ _ _ h hp;dsimp only[gw,F0]at h;split at h<;>cases h
 rename_i cs us es c rs p;refine cb Ka0 Tryz.func398 ?_
 intro O r F hO hr hF;cbv
 repeat' first|apply Zb|(apply bC<;>intro hb<;>cbv)
 all_goals(subst hO hr hF;(try simp only[nc]at*);(try simp only[ah,SS,sa,az]at*))
 all_goals first|(show(_:List DV)=_;exact rfl)|exact hp|(show ay _ _=true;kernel_rfl)|done
abbrev Ka1:cT:=dG (fun F f=>match f with|277=>cN F|355=>cN F|_=>fun _=>none) (by
 intro f;dsimp only;split;exact lM;exact lU;exact cX)
def ft:EP:=fun F=>fun
 |[.mp [.own (.s 1 cs),.own (.s 1 us),.own (.s 2 es),.own (.v (.int Za c)),.own (.s 1 rs)],.one (.v (.int Za f))]=>some (fun _=>Rw [.sl [tI]] cs/\Rw [tB] us/\Rw [tI,tI] es/\es.length<=1099511627776/\0<=f/\f<cs.length/\us.length=cs.length,[[.own (.s 1 (F.dfC cs es f)),.own (.s 1 (F.dfU us es f)),.own (.s 2 es),.own (.i c),.own (.s 1 rs)]],[])
 |_=>none
def zX:ep 270 ft:=by
 intro _ _ _ _ h hp;dsimp only[ft,F0]at h;split at h<;>cases h
 rename_i cs us es c rs f;obtain⟨wc,wu,we,el,f0,f1,ul⟩:=hp;refine pb Ka1 Tryz.func270 ?_
 exact agu
def AK:ep 414 ft:=by
 intro _ _ _ _ h hp;dsimp only[ft,F0]at h;split at h<;>cases h
 rename_i cs us es c rs f;obtain⟨wc,wu,we,el,f0,f1,ul⟩:=hp;refine pb Ka1 Tryz.func414 ?_
 exact agu
end Go.V