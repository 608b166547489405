/- Contracts. -/
import Derived.Test.YtpldpilhgjpkjaaGreatWM4
set_option linter.all false
open Go
open And renaming intro->Zb
open Int renaming natCast_nonneg->Xn
open IntKind renaming i64->Za
open List renaming length_cons->Zp,length_nil->Zt
open True renaming intro->Zd
namespace Go.V
open Go Go.Proofs
set_option maxRecDepth 1000000
set_option maxHeartbeats 8000000
abbrev Hn0:cT:=dG (fun F f=>match f with|69=>eY F|33=>ai F|92=>ai F|_=>fun _=>none) (by
 intro f;dsimp only;split;exact gU;exact aU;exact bi;exact cX)
def eE:EC:=fun F=>fun
 |[.one (.v (.int Za s))]=>some (fun _=>True,[.j (F.nxS s)])
 |_=>none
def xK:ec 330 eE:=by
 intro _ _ _ h hp;dsimp only[eE,F0]at h;split at h<;>cases h
 rename_i s;refine cb Hn0 Tryz.func330 ?_
 exact agD
def yD:ec 416 eE:=by
 intro _ _ _ h hp;dsimp only[eE,F0]at h;split at h<;>cases h
 rename_i s;refine cb Hn0 Tryz.func416 ?_
 exact agD
abbrev Hn1:cT:=dG (fun F f=>match f with|69=>eY F|33=>ai F|330=>eE F|92=>ai F|416=>eE F|_=>fun _=>none) (by
 intro f;dsimp only;split;exact gU;exact aU;exact xK;exact bi;exact yD;exact cX)
def fM:EC:=fun F=>fun
 |[.one (.v (.int Za s)),.one (.v (.int Za n))]=>some (fun _=>True,[.j (F.cuI s n),.j (F.cuS s n)])
 |_=>none
def Cj:ec 257 fM:=by
 intro _ _ _ h hp;dsimp only[fM,F0]at h;split at h<;>cases h
 rename_i s n;refine cb Hn1 Tryz.func257 ?_
 exact agx
def CN:ec 403 fM:=by
 intro _ _ _ h hp;dsimp only[fM,F0]at h;split at h<;>cases h
 rename_i s n;refine cb Hn1 Tryz.func403 ?_
 exact agx
abbrev Hn2:cT:=dG (fun F f=>match f with|69=>eY F|33=>ai F|257=>fM F|92=>ai F|403=>fM F|_=>fun _=>none) (by
 intro f;dsimp only;split;exact gU;exact aU;exact Cj;exact bi;exact CN;exact cX)
def eJ:EC:=fun F=>fun
 |[.one (.v (.int Za s)),.one (.v (.int Za n))]=>some (fun _=>True,[.one (.s 1 (F.shuL s n)),.j (F.shuS s n)])
 |_=>none
def xP:ec 287 eJ:=by
 intro _ _ _ h hp;dsimp only[eJ,F0]at h;split at h<;>cases h
 rename_i s n;refine cb Hn2 Tryz.func287 ?_
 exact zq7
def yI:ec 368 eJ:=by
 intro _ _ _ h hp;dsimp only[eJ,F0]at h;split at h<;>cases h
 rename_i s n;refine cb Hn2 Tryz.func368 ?_
 exact zq7
abbrev Hq1:cT:=dG (fun F f=>match f with|172=>cH F|301=>cH F|289=>dX F|369=>dX F|_=>fun _=>none) (by
 intro f;dsimp only;split;exact j9;exact ki;exact vG;exact vZ;exact cX)
def eG:EC:=fun F=>fun
 |[.agg [.v (.int Za p),.v (.int Za k),.v (.int Za b)],.agg [.v (.int Za q),.v (.int Za l),.v (.int Za c)]]=>some (fun _=>True,[.agg [.i (F.ppK p k b q l c),.i (F.ppM p k b q l c),.s 1 (F.ppC p k b q l c)],.k (F.mshB p k b q l c)])
 |_=>none
def xM:ec 186 eG:=by
 intro _ _ _ h hp;dsimp only[eG,F0]at h;split at h<;>cases h
 rename_i p k b q l c;refine cb Hq1 Tryz.func186 ?_
 exact agw
def yF:ec 312 eG:=by
 intro _ _ _ h hp;dsimp only[eG,F0]at h;split at h<;>cases h
 rename_i p k b q l c;refine cb Hq1 Tryz.func312 ?_
 exact agw
abbrev Hq2:cT:=dG (fun F f=>match f with|178=>dR F|252=>hE F|308=>dR F|200=>dt F|_=>fun _=>none) (by
 intro f;dsimp only;split;exact sL;exact qx;exact sO;exact q7;exact cX)
def fP:EC:=fun F=>fun
 |[.agg [.v (.int Za k),.v (.int Za m),.s 1 cs]]=>some (fun _=>Rw [tI] cs/\cs.length<=1099511627776,[.agg [.i (F.ifZ (F.plOk k m cs) k),.i (F.ifZ (F.plOk k m cs) m),.s 1 (F.ifR (F.plOk k m cs) cs []),.i 0,.i 0],.k (F.plOk k m cs)])
 |_=>none
def Ck:ec 187 fP:=by
 intro _ _ _ h hp;dsimp only[fP,F0]at h;split at h<;>cases h
 rename_i k m cs;obtain⟨hw,hl⟩:=hp;refine cb Hq2 Tryz.func187 ?_
 exact agz
def CP:ec 313 fP:=by
 intro _ _ _ h hp;dsimp only[fP,F0]at h;split at h<;>cases h
 rename_i k m cs;obtain⟨hw,hl⟩:=hp;refine cb Hq2 Tryz.func313 ?_
 exact agz
def md:EC:=fun F=>fun
 |[.agg [.v (.int Za a),.v (.int Za b)],.ptr [.v (.int Za x)]]=>some (fun _=>True,[.k (F.tnP a b x)])
 |_=>none
def zZ:ec 348 md:=by
 intro _ _ _ h hp;dsimp only[md,F0]at h;split at h<;>cases h
 rename_i a b x;refine cb nB Tryz.func348 ?_
 intro O r F hO hr hF;cbv
 repeat' first|apply Zb|(apply bC<;>intro hb<;>cbv)
 all_goals(subst hO hr hF;(try simp only[nc]at*);(try simp only[ah,SS,sa,az]at*))
 all_goals first
  | (show(_:List DV)=_
     first
      |exact aj (agb Ud).symm
      |exact aj (agc Ud).symm
      |done)
  |done
abbrev Hq4:cT:=dG (fun F f=>match f with|348=>md F|_=>fun _=>none) (by
 intro f;dsimp only;split;exact zZ;exact cX)
def bg:EC:=fun F=>fun
 |[.one (.s 2 es),.fn 348 [[.v (.int Za x)]]]=>some (fun _=>Rw [tI,tI] es/\es.length<=1099511627776,[.j (F.tnI es x)])
 |_=>none
def cv:ec 395 bg:=by
 intro _ _ _ h hp;dsimp only[bg,F0]at h;split at h<;>cases h
 rename_i es x;obtain⟨hw,hn⟩:=hp;refine cb Hq4 Tryz.func395 ?_
 intro O r F hO hr hF;cbv
 repeat' first|apply Zb|(apply bC<;>intro hb<;>cbv)|(refine⟨[0,1,7,8],[0],Int,fun i=>[.reg 8 (.j i)],fun i=>0<=i/\i<=((es.length:Nat):Int)/\upto (cY (tnH es x)) i,fun i=>(es.length)-i.toNat,⟨0,?_,?_⟩,?_⟩;rotate_left;(focus (cbv;done));intro i hi;replace hi:0<=i/\i<=((es.length:Nat):Int)/\upto (cY (tnH es x)) i:=hi;obtain⟨i0,i1,i2⟩:=hi;cbv)|(refine af (O.ar .add Za i 1) ?_ ?_ ?_;focus (cbv;done))
 all_goals(subst hO hr hF;(try simp only[nc]at*);(try simp only[ah,SS,sa,az]at*);(try rw[dd Uc Uc]))
 all_goals first
  | (show(_:List DV)=_
     first
      |exact dH (gx i2 i0 Ud (show tnH es x i=true from by assumption)).symm
      |exact dH (fK i2 Ud).symm
      |done)
  |omega
  |exact iB
  |(show(lk _ _).isSome=true;kernel_rfl)
  |exact bI
  |exact bu i2 (rE (show tnH es x i=false from by assumption))
  |done
abbrev Hq5:cT:=dG (fun F f=>match f with|395=>bg F|_=>fun _=>none) (by
 intro f;dsimp only;split;exact cv;exact cX)
def aY:EC:=fun F=>fun
 |[.one (.s 2 es),.fn 348 [[.v (.int Za x)]]]=>some (fun _=>Rw [tI,tI] es/\es.length<=1099511627776,[.k (F.tnB es x)])
 |_=>none
def ce:ec 347 aY:=by
 intro _ _ _ h hp;dsimp only[aY,F0]at h;split at h<;>cases h
 rename_i es x;refine cb Hq5 Tryz.func347 ?_
 intro O r F hO hr hF;cbv
 repeat' first|apply Zb|(apply bC<;>intro hb<;>cbv)
 all_goals(subst hO hr hF;(try simp only[nc]at*);(try simp only[ah,SS,sa,az]at*))
 all_goals first
  | (show(_:List DV)=_
     first
      |exact rfl
      |done)
  |exact hp
  |done
abbrev Hq6:cT:=dG (fun F f=>match f with|347=>aY F|_=>fun _=>none) (by
 intro f;dsimp only;split;exact ce;exact cX)
def pF:EC:=fun F=>fun
 |[.one (.s 2 es),.one (.v (.int Za x))]=>some (fun _=>Rw [tI,tI] es/\es.length<=1099511627776,[.k (F.tnB es x)])
 |_=>none
def Ew:ec 288 pF:=by
 intro _ _ _ h hp;dsimp only[pF,F0]at h;split at h<;>cases h
 rename_i es x;refine cb Hq6 Tryz.func288 ?_
 intro O r F hO hr hF;cbv
 repeat' first|apply Zb|(apply bC<;>intro hb<;>cbv)
 all_goals(subst hO hr hF;(try simp only[nc]at*);(try simp only[ah,SS,sa,az]at*))
 all_goals first
  | (show(_:List DV)=_
     first
      |exact rfl
      |done)
  |exact hp
  |(show(lk _ _).isSome=true;kernel_rfl)
  |(show ay _ _=true;kernel_rfl)
  |done
abbrev Hr0:cT:=dG (fun F f=>match f with|33=>ai F|69=>eY F|287=>eJ F|288=>pF F|172=>cH F|92=>ai F|368=>eJ F|301=>cH F|_=>fun _=>none) (by
 intro f;dsimp only;split;exact aU;exact gU;exact xP;exact Ew;exact j9;exact bi;exact yI;exact ki;exact cX)
def dz:EC:=fun F=>fun
 |[.one (.s 3 sp),.one (.v (.int Za s)),.one (.v (.int Za k))]=>some (fun _=>Rw [tI,tI,tI] sp/\sp.length<=1073741824,[.one (.s 2 (F.sqL sp s k)),.j (F.sqS sp s k)])
 |_=>none
def tO:ec 185 dz:=by
 intro _ _ _ h hp;dsimp only[dz,F0]at h;split at h<;>cases h
 rename_i sp s k;obtain⟨hw,hl⟩:=hp;refine cb Hr0 Tryz.func185 ?_
 intro O r F hO hr hF;cbv
 repeat' first|apply Zb|(apply bC<;>intro hb<;>cbv)|(refine⟨[0,2,10,11,12,13,14],[13,36],Int×ab,fun s_=>match s_ with|(p,o)=>[.reg 14 (.j p),.reg 13 (.one (.vw 13 0 0 0 (O.ln o))),.leaf 13 0 ⟨0,0,none,.own (.s 2 o)⟩],fun s_=>match s_ with|(p,o)=>0<=p/\p<=k/\LA sp (shuL s sp.length) ((sp.length:Int)/2) p o,fun s_=>match s_ with|(p,o)=>(k-p).toNat,⟨(0,[]),?_,?_⟩,?_⟩;rotate_left;(focus (cbv;done));intro s_ hp;obtain⟨p,o⟩:=s_;replace hp:0<=p/\p<=k/\LA sp (shuL s sp.length) ((sp.length:Int)/2) p o:=hp;obtain⟨p0,p1,p2⟩:=hp;cbv)|(refine⟨[0,2,10,11,12,13,14,53,54,55],[13,36],Int×ab,fun s_=>match s_ with|(i,q)=>[.reg 55 (.j i),.reg 13 (.one (.vw 13 0 0 0 (O.ln q))),.leaf 13 0 ⟨0,0,none,.own (.s 2 q)⟩],fun s_=>match s_ with|(i,q)=>0<=i/\i<=(sp.length:Int)/2/\Ly sp (shuL s sp.length) ((sp.length:Int)/2) p i o q,fun s_=>match s_ with|(i,q)=>((sp.length:Int)/2-i).toNat,⟨(0,o),?_,?_⟩,?_⟩;rotate_left;(focus (cbv;done));intro s_ hi;obtain⟨i,q⟩:=s_;replace hi:0<=i/\i<=(sp.length:Int)/2/\Ly sp (shuL s sp.length) ((sp.length:Int)/2) p i o q:=hi;obtain⟨i0,i1,i2⟩:=hi;cbv)|(refine af (O.ar .add Za i 1,O.cat q (O.sub [[.i (O.pi (.s 1 (F.shuL s (O.zi (O.ln sp)))) [(O.ad (O.ad 0 0) i,0)]),.i (O.pi (.s 1 (F.shuL s (O.zi (O.ln sp)))) [(O.ad (O.ad 0 (O.ar .quo Za (O.zi (O.ln sp)) 2)) (O.ar .rem Za (O.ar .add Za i p) (O.zi (O.df (O.zi (O.ln (F.shuL s (O.zi (O.ln sp))))) (O.ar .quo Za (O.zi (O.ln sp)) 2)))),0)])]] 0 (O.ln [[.i (O.pi (.s 1 (F.shuL s (O.zi (O.ln sp)))) [(O.ad (O.ad 0 0) i,0)]),.i (O.pi (.s 1 (F.shuL s (O.zi (O.ln sp)))) [(O.ad (O.ad 0 (O.ar .quo Za (O.zi (O.ln sp)) 2)) (O.ar .rem Za (O.ar .add Za i p) (O.zi (O.df (O.zi (O.ln (F.shuL s (O.zi (O.ln sp))))) (O.ar .quo Za (O.zi (O.ln sp)) 2)))),0)])]]))) ?_ ?_ ?_;focus (cbv;done))|(refine af (O.ar .add Za i 1,q) ?_ ?_ ?_;focus (cbv;done))|(refine af (O.ar .add Za p 1,q) ?_ ?_ ?_;focus (cbv;done))
 all_goals(subst hO hr hF;(try simp only[nc]at*);(try simp only[ah,SS,sa,az]at*))
 all_goals(have n0:(0:Int)<=sp.length:=Xn _;(try have n1:(sp.length:Int)<=16:=by assumption);(try have kk:=bz.1 (by assumption:inR k 0 16=true));(try have ks:inR s 0 1073741823=true:=by assumption);(try have nn:inR (sp.length:Int) 0 64=true:=bz.2 ⟨Uc,Uc⟩);(try have ol:=zC ks nn);(try have oi:=I2 ks nn);(try have ow:=Ox (s:=s) (n:=sp.length));(try have q2:=af1 n0 n1);(try simp only[q2]at*);(try simp only[acl]at*);(try simp only[aiF n0]at*);(try simp only[aiH ol n0]at*);(try rw[dd Uc Uc]);(try have S:=(by assumption:LA sp (shuL s sp.length) ((sp.length:Int)/2) p o));(try have F:=(by assumption:Ly sp (shuL s sp.length) ((sp.length:Int)/2) p i o q));(try have sb:=afW S Uc Uc Uc Uc);(try have fl:=F.l);(try have m:=af0 (n:=sp.length) (i:=i) (p:=p) Uc Uc Uc Uc n1);(try simp only[m.1]at*);(try simp only[aiE n0 m.2.1]at*);(try have i0:0<=i:=by omega);(try have r0:0<=(sp.length:Int)/2+(i+p)%(sp.length- (sp.length:Int)/2):=by omega);(try simp only[gS i0,gS r0]at*);(try have la:=oi.at i0 Uc);(try have lb:=oi.at r0 Uc))
 all_goals first
  | (show(_:List DV)=_
     first
      |exact nE (yY (QY Ud)).1.symm (yY (QY Ud)).2.symm
      |exact nE (yY (sp:=sp) (s:=s) (QZ Ud)).1.symm (yY (sp:=sp) (s:=s) (QZ Ud)).2.symm
      |exact nE (yY (sp:=sp) (k:=k) (Q0 Ud)).1.symm (yY (sp:=sp) (k:=k) (Q0 Ud)).2.symm
      |(have z:=KM (k:=k) S Uc (afZ n1 Ud ks);exact nE z.1 z.2)
      |done)
  |(show ay _ _=true;kernel_rfl)
  |omega
  |exact⟨Zd,Zd⟩
  |exact⟨F.r,Uc⟩
  |exact nA ow i0 Uc
  |exact nA ow r0 Uc
  |exact TS
  |exact TQ S
  |exact wD F i0 (TV Ud)
  |exact wD F i0 (TW (by rw[je ol];assumption))
  |exact wD F i0 (TX (by rw[je ol];assumption))
  |(have z:=KJ F i0 (TY Ud (by rw[je ol];assumption) (by rw[je ol];assumption)) Uc (by rw[je ol];omega) Uc;rw[je ol]at z;exact z)
  |(constructor<;>(simp only[Zp,Zt];omega))
  |exact OB S F Uc Uc Uc
  |(refine⟨Uc,Uc,?_⟩;exact iB)
  |exact iB
  |done
def uq:ec 311 dz:=by
 intro _ _ _ h hp;dsimp only[dz,F0]at h;split at h<;>cases h
 rename_i sp s k;obtain⟨hw,hl⟩:=hp;refine cb Hr0 Tryz.func311 ?_
 intro O r F hO hr hF;cbv
 repeat' first|apply Zb|(apply bC<;>intro hb<;>cbv)|(refine⟨[0,2,8,9,10,11,12,13],[8,12,37],Int×ab×ab,fun s_=>match s_ with|(p,o,u)=>[.reg 13 (.j p),.reg 8 (.one (.vw 8 0 0 0 (O.ln o))),.leaf 8 0 ⟨0,0,none,.own (.s 2 o)⟩,.leaf 12 0 ⟨0,0,none,.own (.s 1 u)⟩],fun s_=>match s_ with|(p,o,u)=>0<=p/\p<=k/\LA sp (shuL s sp.length) ((sp.length:Int)/2) p o/\Po sp.length o u,fun s_=>match s_ with|(p,o,u)=>(k-p).toNat,⟨(0,[],O.rep (O.zi (O.ln sp)) [.v (.bool false)]),?_,?_⟩,?_⟩;rotate_left;(focus (cbv;done));intro s_ hp;obtain⟨p,o,u⟩:=s_;replace hp:0<=p/\p<=k/\LA sp (shuL s sp.length) ((sp.length:Int)/2) p o/\Po sp.length o u:=hp;obtain⟨p0,p1,p2,p3⟩:=hp;cbv)|(refine⟨[0,2,8,9,10,11,12,13,14],[8,12,37],Int×ab×ab,fun s_=>match s_ with|(i,q,v)=>[.reg 14 (.j i),.reg 8 (.one (.vw 8 0 0 0 (O.ln q))),.leaf 8 0 ⟨0,0,none,.own (.s 2 q)⟩,.leaf 12 0 ⟨0,0,none,.own (.s 1 v)⟩],fun s_=>match s_ with|(i,q,v)=>0<=i/\i<=(sp.length:Int)/2/\Ly sp (shuL s sp.length) ((sp.length:Int)/2) p i o q/\Po sp.length q v,fun s_=>match s_ with|(i,q,v)=>((sp.length:Int)/2-i).toNat,⟨(0,o,u),?_,?_⟩,?_⟩;rotate_left;(focus (cbv;done));intro s_ hi;obtain⟨i,q,v⟩:=s_;replace hi:0<=i/\i<=(sp.length:Int)/2/\Ly sp (shuL s sp.length) ((sp.length:Int)/2) p i o q/\Po sp.length q v:=hi;obtain⟨i0,i1,i2,i3⟩:=hi;cbv)|(refine af (O.ar .add Za i 1,O.cat q (O.sub [[.i (O.pi (.s 1 (F.shuL s (O.zi (O.ln sp)))) [(O.ad 0 i,0)]),.i (O.pi (.s 1 (F.shuL s (O.zi (O.ln sp)))) [(O.ad 0 (O.ar .add Za (O.ar .quo Za (O.zi (O.ln (F.shuL s (O.zi (O.ln sp))))) 2) (O.ar .rem Za (O.ar .add Za i p) (O.ar .sub Za (O.zi (O.ln (F.shuL s (O.zi (O.ln sp))))) (O.ar .quo Za (O.zi (O.ln (F.shuL s (O.zi (O.ln sp))))) 2)))),0)])]] 0 (O.ln [[.i (O.pi (.s 1 (F.shuL s (O.zi (O.ln sp)))) [(O.ad 0 i,0)]),.i (O.pi (.s 1 (F.shuL s (O.zi (O.ln sp)))) [(O.ad 0 (O.ar .add Za (O.ar .quo Za (O.zi (O.ln (F.shuL s (O.zi (O.ln sp))))) 2) (O.ar .rem Za (O.ar .add Za i p) (O.ar .sub Za (O.zi (O.ln (F.shuL s (O.zi (O.ln sp))))) (O.ar .quo Za (O.zi (O.ln (F.shuL s (O.zi (O.ln sp))))) 2)))),0)])]])),O.up (.s 1 (O.up (.s 1 v) [(O.ad 0 (O.pi (.s 1 (F.shuL s (O.zi (O.ln sp)))) [(O.ad 0 i,0)]),0)] [.v (.bool true)])) [(O.ad 0 (O.pi (.s 1 (F.shuL s (O.zi (O.ln sp)))) [(O.ad 0 (O.ar .add Za (O.ar .quo Za (O.zi (O.ln (F.shuL s (O.zi (O.ln sp))))) 2) (O.ar .rem Za (O.ar .add Za i p) (O.ar .sub Za (O.zi (O.ln (F.shuL s (O.zi (O.ln sp))))) (O.ar .quo Za (O.zi (O.ln (F.shuL s (O.zi (O.ln sp))))) 2)))),0)]),0)] [.v (.bool true)]) ?_ ?_ ?_;focus (cbv;done))|(refine af (O.ar .add Za i 1,q,v) ?_ ?_ ?_;focus (cbv;done))|(refine af (O.ar .add Za p 1,q,v) ?_ ?_ ?_;focus (cbv;done))
 all_goals(subst hO hr hF;(try simp only[nc]at*);(try simp only[ah,SS,sa,az]at*))
 all_goals(have n0:(0:Int)<=sp.length:=Xn _;(try have n1:(sp.length:Int)<=16:=by assumption);(try have kk:=bz.1 (by assumption:inR k 0 16=true));(try have ks:inR s 0 1073741823=true:=by assumption);(try have nn:inR (sp.length:Int) 0 64=true:=bz.2 ⟨Uc,Uc⟩);(try have ol:=zC ks nn);(try have oi:=I2 ks nn);(try have ow:=Ox (s:=s) (n:=sp.length));(try have q2:=af1 n0 n1);(try simp only[ol]at*);(try have ol:=zC ks nn);(try simp only[afB n0]at*);(try simp only[q2]at*);(try simp only[acl]at*);(try have qs:=aiI n0 n1);(try simp only[qs]at*);(try rw[dd Uc Uc]);(try have S:=(by assumption:LA sp (shuL s sp.length) ((sp.length:Int)/2) p o));(try have F:=(by assumption:Ly sp (shuL s sp.length) ((sp.length:Int)/2) p i o q));(try have sb:=afW S Uc Uc Uc Uc);(try have fl:=F.l);(try have m:=af0 (n:=sp.length) (i:=i) (p:=p) Uc Uc Uc Uc n1);(try simp only[m.1]at*);(try have qp:=aiG n0 n1 m.2.1 m.2.2);(try simp only[qp]at*);(try have i0:0<=i:=by omega);(try have r0:0<=(sp.length:Int)/2+(i+p)%(sp.length- (sp.length:Int)/2):=by omega);(try simp only[gS i0,gS r0]at*);(try have la:=oi.at i0 Uc);(try have lb:=oi.at r0 Uc);(try have U:=(by assumption:Po sp.length q v));(try have ur:=U.r);(try have ul:=U.l);(try have ua:=agf U la.1 la.2);(try simp only[ua]at*);(try have ub:=agf U lb.1 lb.2);(try simp only[ub]at*);(try have uu:=agh ur la.1 Uc lb.1 Uc);(try simp only[uu]at*))
 all_goals first
  | (show(_:List DV)=_
     first
      |exact nE (yY (QY Ud)).1.symm (yY (QY Ud)).2.symm
      |exact nE (yY (sp:=sp) (s:=s) (QZ Ud)).1.symm (yY (sp:=sp) (s:=s) (QZ Ud)).2.symm
      |exact nE (yY (sp:=sp) (k:=k) (Q0 Ud)).1.symm (yY (sp:=sp) (k:=k) (Q0 Ud)).2.symm
      |(have z:=KM (k:=k) S Uc (afZ n1 Ud ks);exact nE z.1 z.2)
      |done)
  |(show ay _ _=true;kernel_rfl)
  |omega
  |exact⟨Zd,Zd⟩
  |exact⟨F.r,Uc⟩
  |exact nA ow i0 Uc
  |exact nA ow r0 Uc
  |exact TS
  |exact agi (by unfold maxLen;omega)
  |assumption
  |exact Tu ur la.1 Uc
  |exact af3 ur la.1 Uc
  |exact af4 ur la.1 Uc lb.1 Uc
  |exact Tu ur lb.1 Uc
  |(have z:=acu U la.1 la.2 lb.1 lb.2;exact z)
  |exact TQ S
  |exact wD F i0 (TV Ud)
  |exact wD F i0 (TW (by rw[je ol];assumption))
  |exact wD F i0 (TX (by rw[je ol];assumption))
  |(have z:=KJ F i0 (TY Ud (by rw[je ol];assumption) (by rw[je ol];assumption)) Uc (by rw[je ol];omega) Uc;rw[je ol]at z;exact z)
  |(constructor<;>(simp only[Zp,Zt];omega))
  |exact OB S F Uc Uc Uc
  |(refine⟨Uc,Uc,?_⟩;exact iB)
  |exact iB
  |done
abbrev Mt0:cT:=dG (fun F f=>match f with|36=>eK F|17=>fO F|184=>dW F|185=>dz F|186=>eG F|187=>fP F|310=>dW F|311=>dz F|312=>eG F|313=>fP F|_=>fun _=>none) (by
 intro f;dsimp only;split;exact ka;exact nL;exact vE;exact tO;exact xM;exact Ck;exact vY;exact uq;exact yF;exact CP;exact cX)
def oW:EC:=fun F=>fun
 |[.agg hl_]=>hL hl_ fun a0 a1 a2 a3 a4 a5 a6 a7 a8 a9 aA aB aC aD aE aF aG aH aI aJ aK aL aM aN=>(fun _=>Jm a0 a1 a2 a4 a5 a6 a7 a8 a9 aA aB aD aL,[.agg (hpL a0 a1 a2 a3 a4 a5 a6 a7 a8 a9 aA aB aC aD (F.mtD (F.mtG (F.hpI a0 a1 a2 a3 a4 a5 a6 a7 a8 a9 aA aB aC aD aE aF aG aH aI aJ aK aL aM aN) aI) a2 a6 aE) aF aG aH (F.mtO (F.mtG (F.hpI a0 a1 a2 a3 a4 a5 a6 a7 a8 a9 aA aB aC aD aE aF aG aH aI aJ aK aL aM aN) aI) a2 a6 aE aI) (F.mtJk (F.mtG (F.hpI a0 a1 a2 a3 a4 a5 a6 a7 a8 a9 aA aB aC aD aE aF aG aH aI aJ aK aL aM aN) aI) a2 a6 aE aJ) (F.mtJm (F.mtG (F.hpI a0 a1 a2 a3 a4 a5 a6 a7 a8 a9 aA aB aC aD aE aF aG aH aI aJ aK aL aM aN) aI) a2 a6 aE aK) (F.mtJc (F.mtG (F.hpI a0 a1 a2 a3 a4 a5 a6 a7 a8 a9 aA aB aC aD aE aF aG aH aI aJ aK aL aM aN) aI) a2 a6 aE aL) (F.mtJ0 (F.mtG (F.hpI a0 a1 a2 a3 a4 a5 a6 a7 a8 a9 aA aB aC aD aE aF aG aH aI aJ aK aL aM aN) aI) a2 a6 aE aM) (F.mtJ0 (F.mtG (F.hpI a0 a1 a2 a3 a4 a5 a6 a7 a8 a9 aA aB aC aD aE aF aG aH aI aJ aK aL aM aN) aI) a2 a6 aE aN)),.k (F.mtB (F.mtG (F.hpI a0 a1 a2 a3 a4 a5 a6 a7 a8 a9 aA aB aC aD aE aF aG aH aI aJ aK aL aM aN) aI) a2 a6 aE)])
 |_=>none
def vF:ec 78 oW:=by
 intro _ _ _ h hp;dsimp only[oW,F0,hL]at h;split at h;rotate_left;cases h;split at h<;>cases h
 rename_i a0 a1 a2 a3 a4 a5 a6 a7 a8 a9 aA aB aC aD aE aF aG aH aI aJ aK aL aM aN;have l2:=aS (es:=a2);have c2:=hp.c2;have l6:=aS (es:=a6);have c6:=hp.c6;have ml:=zy (e:=a2) (s:=a6);have mlm:=NG (e:=a2) (s:=a6);have mr:=(Nx (es:=a2) hp.r6).1;have mtr:=NE (e:=a2) hp.r6;have P:=IH (e:=a2) (s:=a6) (d:=aE);have Pr:=P.1.r;refine cb Mt0 Tryz.func78 ?_
 intro O r F hO hr hF;cbv
 repeat' first|apply Zb|(apply bC<;>intro hb<;>cbv)
 all_goals(subst hO hr hF;(try simp only[nc]at*);(try simp only[ah,SS,sa,az]at*))
 all_goals exact zq6
def qF:EP:=fun F=>fun
 |[.mp hl_]=>hM hl_ fun a0 a1 a2 a3 a4 a5 a6 a7 a8 a9 aA aB aC aD aE aF aG aH aI aJ aK aL aM aN=>(fun _=>Jm a0 a1 a2 a4 a5 a6 a7 a8 a9 aA aB aD aL,[(hpM a0 a1 a2 a3 a4 a5 a6 a7 a8 a9 aA aB aC aD (F.mtD true a2 a6 aE) aF aG aH (F.mtO true a2 a6 aE aI) (F.mtJk true a2 a6 aE aJ) (F.mtJm true a2 a6 aE aK) (F.mtJc true a2 a6 aE aL) (F.mtJ0 true a2 a6 aE aM) (F.mtJ0 true a2 a6 aE aN))],[.k (F.mtB true a2 a6 aE)])
 |_=>none
def yN:ep 215 qF:=by
 intro _ _ _ _ h hp;dsimp only[qF,F0,hM]at h;split at h;rotate_left;cases h;split at h<;>cases h
 rename_i a0 a1 a2 a3 a4 a5 a6 a7 a8 a9 aA aB aC aD aE aF aG aH aI aJ aK aL aM aN;have l2:=aS (es:=a2);have c2:=hp.c2;have l6:=aS (es:=a6);have c6:=hp.c6;have ml:=zy (e:=a2) (s:=a6);have mlm:=NG (e:=a2) (s:=a6);have mr:=(Nx (es:=a2) hp.r6).1;have mtr:=NE (e:=a2) hp.r6;have P:=IH (e:=a2) (s:=a6) (d:=aE);have Pr:=P.1.r;refine pb Mt0 Tryz.func215 ?_
 intro O r os F hO hr hos hF;cbv
 repeat' first|apply Zb|(apply bC<;>intro hb<;>cbv)
 all_goals((try subst hos);subst hO hr hF;(try simp only[nc]at*);(try simp only[ah,SS,sa,az]at*))
 all_goals exact zq6
end Go.V