/- Contracts. -/
import Derived.Test.YtpldpilhgjpkjaaGreatWM3
set_option linter.all false
open Go
open And renaming intro->Zb
open IntKind renaming i64->Za
open List renaming length_cons->Zp,length_nil->Zt
open True renaming intro->Zd
namespace Go.V
open Go Go.Proofs
set_option maxRecDepth 1000000
set_option maxHeartbeats 8000000
abbrev Ob1:cT:=dG (fun F f=>match f with|164=>cU F|54=>bM F|359=>bM F|_=>fun _=>none) (by
 intro f;dsimp only;split;exact oU;exact dV;exact gH;exact cX)
def kW:EC:=fun F=>fun
 |[.agg [.s 1 b0,.s 1 b1,.s 2 es],.one (.v (.int Za a))]=>some (fun _=>Rw [tI,tI] es/\I64 a,[.agg [.i (F.leM es a),.i (F.leF es a)],.j (F.leK a)])
 |_=>none
def yJ:ec 418 kW:=by
 intro _ _ _ h hp;dsimp only[kW,F0]at h;split at h<;>cases h
 rename_i b0 b1 es a;obtain⟨hw,ha⟩:=hp;have hq:¬ a<0->bK .quo Za a 16=a/16:=fun h=>rJ Uc Uc Uc
 have hr:¬ a<0->bK .rem Za a 16=a%16:=fun h=>ve Uc
 refine cb Ob1 Tryz.func418 ?_
 intro O r F hO hr hF;cbv
 repeat' first|apply Zb|(apply bC<;>intro hb<;>cbv)
 all_goals(subst hO hr hF;(try simp only[nc]at*);(try simp only[ah,SS,sa,az]at*))
 all_goals first|exact LU (Bl Uc).1.symm (Bl Uc).2.1.symm (Bl (es:=es) Uc).2.2.symm|(rw[hq Uc,hr Uc];exact LU (pS Uc).1.symm (pS Uc).2.1.symm (pS (es:=es) Uc).2.2.symm)|(first|assumption|exact Rw.sub (by first|assumption|exact Rw.sub Ud Uc rfl) Uc rfl)|trivial|trace_state
def iL:EC:=fun F=>fun
 |[.agg [.s 1 cs,.s 1 us,.s 2 es],.one (.v (.int Za a))]=>some (fun _=>Rw [.sl [tI]] cs/\Rw [tB] us/\Rw [tI,tI] es/\I64 a,[.agg [.i (F.smM cs us es a),.i (F.smF cs us es a)]])
 |_=>none
def qX:ec 149 iL:=by
 intro _ _ _ h hp;dsimp only[iL,F0]at h;split at h<;>cases h
 rename_i cs us es a;obtain⟨hc,hu,he,ha⟩:=hp;have hq:¬ a<0->bK .quo Za a 16=a/16:=fun h=>rJ Uc Uc Uc
 refine cb Ob1 Tryz.func149 ?_
 intro O r F hO hr hF;cbv
 repeat' first|apply Zb|(apply bC<;>intro hb<;>cbv)
 all_goals(subst hO hr hF;(try simp only[nc]at*);(try simp only[ah,SS,sa,az]at*))
 all_goals first|exact⟨hc,hu,he⟩|exact he|exact Gg (xz (.inr Uc)).1.symm (xz (.inr Uc)).2.symm|exact Gg (xz (.inl Ud)).1.symm (xz (.inl Ud)).2.symm|(rw[hq Uc];have hi:machOk cs us es=true:=Ud;exact Gg ((tz hi).1.trans (pS Uc).1).symm ((tz hi).2.trans (pS Uc).2.1).symm)|trivial|trace_state
abbrev Oc0:cT:=dG (fun F f=>match f with|167=>cI F|296=>cI F|56=>bL F|43=>bL F|273=>cD F|361=>cD F|_=>fun _=>none) (by
 intro f;dsimp only;split;exact jP;exact jR;exact dU;exact gG;exact iE;exact lT;exact cX)
def dX:EC:=fun F=>fun
 |[.agg [.v (.int Za p),.v (.int Za k),.v (.int Za b)]]=>some (fun _=>True,[.one (.s 1 (F.sclL p k b))])
 |_=>none
def vG:ec 289 dX:=by
 intro _ _ _ h hp;dsimp only[dX,F0]at h;split at h<;>cases h
 rename_i p k b;refine cb Oc0 Tryz.func289 ?_
 intro O r F hO hr hF;cbv
 repeat' first|apply Zb|(apply bC<;>intro hb<;>cbv)|(refine⟨[1,3,4],[1,3],Int×ab,fun s_=>match s_ with|(i,o)=>[.reg 4 (.j i),.reg 3 (.one (.vw 3 0 0 0 (O.ln o))),.leaf 3 0 ⟨0,0,none,.own (.s 1 o)⟩],fun s_=>match s_ with|(i,o)=>0<=i/\i<=16/\xD k b i o,fun s_=>match s_ with|(i,o)=>(16-i).toNat,⟨(0,[]),?_,?_⟩,?_⟩;rotate_left;(focus (cbv;done));intro s_ hi;obtain⟨i,o⟩:=s_;replace hi:0<=i/\i<=16/\xD k b i o:=hi;obtain⟨i0,i1,i2⟩:=hi;cbv)|(refine af (O.ar .add Za i 1,O.cat o (O.sub [[.i i]] 0 (O.ln [[.i i]]))) ?_ ?_ ?_;focus (cbv;done))|(refine af (O.ar .add Za i 1,o) ?_ ?_ ?_;focus (cbv;done))
 all_goals(subst hO hr hF;(try simp only[nc]at*);(try simp only[ah,SS,sa,az]at*);(try rw[dd Uc Uc]);(try have hs:spOk p k b=true:=Ud);(try have c1:=RX (mT hs).2.2.1);(try have qu:bK .quo Za i (clsSz k)=i/clsSz k:=rJ Uc Uc Uc);(try have w1:=KF i2 i0))
 all_goals first
  | (show(_:List DV)=_
     first
      |exact oL (KE i2 hs i1 Uc)
      |exact oL (TK Ud).symm
      |done)
  |omega
  |(show ay _ _=true;kernel_rfl)
  |exact Hb i2 i0 (by rw[<-qu];assumption)
  |exact KH i2 i0 (by rw[<-qu];assumption)
  |exact On
  |(constructor<;>(simp only[Zp,Zt];omega))
  |exact⟨Zd,Zd⟩
  |done
def vZ:ec 369 dX:=by
 intro _ _ _ h hp;dsimp only[dX,F0]at h;split at h<;>cases h
 rename_i p k b;refine cb Oc0 Tryz.func369 ?_
 intro O r F hO hr hF;cbv
 repeat' first|apply Zb|(apply bC<;>intro hb<;>cbv)|(refine⟨[1,3,4],[1,3],Int×ab,fun s_=>match s_ with|(i,o)=>[.reg 4 (.j i),.reg 3 (.one (.vw 3 0 0 0 (O.ln o))),.leaf 3 0 ⟨0,0,none,.own (.s 1 o)⟩],fun s_=>match s_ with|(i,o)=>0<=i/\i<=16/\xD k b i o/\(i=0\/spOk p k b=true),fun s_=>match s_ with|(i,o)=>(16-i).toNat,⟨(0,[]),?_,?_⟩,?_⟩;rotate_left;(focus (cbv;done));intro s_ hi;obtain⟨i,o⟩:=s_;replace hi:0<=i/\i<=16/\xD k b i o/\(i=0\/spOk p k b=true):=hi;obtain⟨i0,i1,i2,i3⟩:=hi;cbv)|(refine af (O.ar .add Za i 1,O.cat o (O.sub [[.i i]] 0 (O.ln [[.i i]]))) ?_ ?_ ?_;focus (cbv;done))|(refine af (O.ar .add Za i 1,o) ?_ ?_ ?_;focus (cbv;done))
 all_goals(subst hO hr hF;(try simp only[nc]at*);(try simp only[ah,SS,sa,az]at*);(try rw[dd Uc Uc]);(try have hs:spOk p k b=true:=Ud);(try have c1:=RX (mT hs).2.2.1);(try have qu:bK .quo Za i (clsSz k)=i/clsSz k:=rJ Uc Uc Uc);(try have w1:=KF i2 i0))
 all_goals first
  | (show(_:List DV)=_
     first
      |exact oL (KG i2 i3 i1 (.inl Uc))
      |exact oL (KG i2 i3 i1 (.inr Ud))
      |done)
  |omega
  |(show ay _ _=true;kernel_rfl)
  |exact Hb i2 i0 (by rw[<-qu];assumption)
  |exact KH i2 i0 (by rw[<-qu];assumption)
  |exact On
  |exact .inr Ud
  |exact .inl trivial
  |(constructor<;>(simp only[Zp,Zt];omega))
  |exact⟨Zd,Zd⟩
  |done
end Go.V