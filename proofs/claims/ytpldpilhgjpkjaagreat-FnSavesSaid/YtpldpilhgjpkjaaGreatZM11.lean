/- Contracts. -/
import Derived.Test.YtpldpilhgjpkjaaGreatZM5
set_option linter.all false
open Go
open And renaming intro->Zc
open IntKind renaming i64->Za
open True renaming intro->Zd
noncomputable section
namespace Go.V
open Go Go.Proofs
set_option maxRecDepth 1000000
set_option maxHeartbeats 8000000
abbrev Hq1:di:=dH (fun F f=>match f with|172=>fk F|289=>jy F|_=>fun _=>none) (by
 intro f;dsimp only;split;exact j9;exact t7;exact dp)
def kv:EC:=fun F=>fun
 |[.agg [.v (.int Za p),.v (.int Za k),.v (.int Za b)],.agg [.v (.int Za q),.v (.int Za l),.v (.int Za c)]]=>some (fun _=>True,[.agg [.i (F.ppK p k b q l c),.i (F.ppM p k b q l c),.s 1 (F.ppC p k b q l c)],.k (F.mshB p k b q l c)])
 |_=>none
def vT:ec 186 kv:=by
 intro _ _ _ h hp;dsimp only[kv,F0]at h;split at h<;>cases h
 rename_i p k b q l c;refine cb Hq1 Tryz.func186 ?_
 intro O r F hO hr hF;cbv
 repeat' first|apply Zc|(apply cN<;>intro hb<;>cbv)
 all_goals(subst hO hr hF;(try simp only[nc]at*);(try simp only[aj,SS,sa,az]at*))
 all_goals first
  | (show(_:List DV)=_
     first
      |(have z:=ajF Ud;exact FR z.1.symm z.2.1.symm z.2.2.symm (by assumption:mshB p k b q l c=false).symm)
      |(have z:=ajD Ud Uc;exact FR z.1.symm z.2.1.symm z.2.2.symm (by assumption:mshB p k b q l c=true).symm)
      |(have z:=ajE Ud Uc;exact FR z.1.symm z.2.1.symm z.2.2.symm (by assumption:mshB p k b q l c=true).symm)
      |done)
  |(show bz _ _=true;kernel_rfl)
  |exact⟨Zd,Zd⟩
  |done
abbrev Hq2:di:=dH (fun F f=>match f with|178=>jP F|252=>gU F|_=>fun _=>none) (by
 intro f;dsimp only;split;exact qP;exact oN;exact dp)
def mH:EC:=fun F=>fun
 |[.agg [.v (.int Za k),.v (.int Za m),.s 1 cs]]=>some (fun _=>Rw [tI] cs/\cs.length<=1099511627776,[.agg [.i (F.ifZ (F.plOk k m cs) k),.i (F.ifZ (F.plOk k m cs) m),.s 1 (F.ifR (F.plOk k m cs) cs []),.i 0,.i 0],.k (F.plOk k m cs)])
 |_=>none
def zz:ec 187 mH:=by
 intro _ _ _ h hp;dsimp only[mH,F0]at h;split at h<;>cases h
 rename_i k m cs;obtain⟨hw,hl⟩:=hp;refine cb Hq2 Tryz.func187 ?_
 intro O r F hO hr hF;cbv
 repeat' first|apply Zc|(apply cN<;>intro hb<;>cbv)
 all_goals(subst hO hr hF;(try simp only[nc]at*);(try simp only[aj,SS,sa,az]at*))
 all_goals first
  | (show(_:List DV)=_
     first
      |(have z:=aiw Ud;exact Ks z.1.symm z.2.1.symm z.2.2.symm rfl rfl (by assumption:plOk k m cs=false).symm)
      |(have z:=aix Ud;exact Ks z.1.symm z.2.1.symm z.2.2.symm rfl rfl (by assumption:plOk k m cs=true).symm)
      |done)
  |exact⟨Zd,Zd⟩
  |exact⟨hw,hl⟩
  |done
def lL:EC:=fun F=>fun
 |[.agg [.v (.int Za a),.v (.int Za b)],.ptr [.v (.int Za x)]]=>some (fun _=>True,[.k (F.tnP a b x)])
 |_=>none
def xy:ec 348 lL:=by
 intro _ _ _ h hp;dsimp only[lL,F0]at h;split at h<;>cases h
 rename_i a b x;refine cb nB Tryz.func348 ?_
 intro O r F hO hr hF;cbv
 repeat' first|apply Zc|(apply cN<;>intro hb<;>cbv)
 all_goals(subst hO hr hF;(try simp only[nc]at*);(try simp only[aj,SS,sa,az]at*))
 all_goals first
  | (show(_:List DV)=_
     first
      |exact ax (agr Ud).symm
      |exact ax (ags Ud).symm
      |done)
  |done
abbrev Hq4:di:=dH (fun F f=>match f with|348=>lL F|_=>fun _=>none) (by
 intro f;dsimp only;split;exact xy;exact dp)
def bB:EC:=fun F=>fun
 |[.one (.s 2 es),.fn 348 [[.v (.int Za x)]]]=>some (fun _=>Rw [tI,tI] es/\es.length<=1099511627776,[.j (F.tnI es x)])
 |_=>none
def cG:ec 395 bB:=by
 intro _ _ _ h hp;dsimp only[bB,F0]at h;split at h<;>cases h
 rename_i es x;obtain⟨hw,hn⟩:=hp;refine cb Hq4 Tryz.func395 ?_
 intro O r F hO hr hF;cbv
 repeat' first|apply Zc|(apply cN<;>intro hb<;>cbv)|(refine⟨[0,1,7,8],[0],Int,fun i=>[.reg 8 (.j i)],fun i=>0<=i/\i<=((es.length:Nat):Int)/\upto (cY (tnH es x)) i,fun i=>(es.length)-i.toNat,⟨0,?_,?_⟩,?_⟩;rotate_left;(focus (cbv;done));intro i hi;replace hi:0<=i/\i<=((es.length:Nat):Int)/\upto (cY (tnH es x)) i:=hi;obtain⟨i0,i1,i2⟩:=hi;cbv)|(refine ah (O.ar .add Za i 1) ?_ ?_ ?_;focus (cbv;done))
 all_goals(subst hO hr hF;(try simp only[nc]at*);(try simp only[aj,SS,sa,az]at*);(try rw[db Uc Uc]))
 all_goals first
  | (show(_:List DV)=_
     first
      |exact cd (dU i2 i0 Ud (show tnH es x i=true from by assumption)).symm
      |exact cd (eQ i2 Ud).symm
      |done)
  |omega
  |exact j4
  |(show(lk _ _).isSome=true;kernel_rfl)
  |exact cr
  |exact bU i2 (gC (show tnH es x i=false from by assumption))
  |done
abbrev Hq5:di:=dH (fun F f=>match f with|395=>bB F|_=>fun _=>none) (by
 intro f;dsimp only;split;exact cG;exact dp)
def aZ:EC:=fun F=>fun
 |[.one (.s 2 es),.fn 348 [[.v (.int Za x)]]]=>some (fun _=>Rw [tI,tI] es/\es.length<=1099511627776,[.k (F.tnB es x)])
 |_=>none
def cv:ec 347 aZ:=by
 intro _ _ _ h hp;dsimp only[aZ,F0]at h;split at h<;>cases h
 rename_i es x;refine cb Hq5 Tryz.func347 ?_
 intro O r F hO hr hF;cbv
 repeat' first|apply Zc|(apply cN<;>intro hb<;>cbv)
 all_goals(subst hO hr hF;(try simp only[nc]at*);(try simp only[aj,SS,sa,az]at*))
 all_goals first
  | (show(_:List DV)=_
     first
      |exact rfl
      |done)
  |exact hp
  |done
abbrev Hq6:di:=dH (fun F f=>match f with|347=>aZ F|_=>fun _=>none) (by
 intro f;dsimp only;split;exact cv;exact dp)
def nX:EC:=fun F=>fun
 |[.one (.s 2 es),.one (.v (.int Za x))]=>some (fun _=>Rw [tI,tI] es/\es.length<=1099511627776,[.k (F.tnB es x)])
 |_=>none
def A3:ec 288 nX:=by
 intro _ _ _ h hp;dsimp only[nX,F0]at h;split at h<;>cases h
 rename_i es x;refine cb Hq6 Tryz.func288 ?_
 intro O r F hO hr hF;cbv
 repeat' first|apply Zc|(apply cN<;>intro hb<;>cbv)
 all_goals(subst hO hr hF;(try simp only[nc]at*);(try simp only[aj,SS,sa,az]at*))
 all_goals first
  | (show(_:List DV)=_
     first
      |done)
  |exact hp
  |done
abbrev Hr0:di:=dH (fun F f=>match f with|33=>ap F|69=>eC F|287=>ky F|288=>nX F|172=>fk F|_=>fun _=>none) (by
 intro f;dsimp only;split;exact aw;exact gG;exact vW;exact A3;exact j9;exact dp)
def iI:EC:=fun F=>fun
 |[.one (.s 3 sp),.one (.v (.int Za s)),.one (.v (.int Za k))]=>some (fun _=>Rw [tI,tI,tI] sp/\sp.length<=1073741824,[.one (.s 2 (F.sqL sp s k)),.j (F.sqS sp s k)])
 |_=>none
def sn:ec 185 iI:=by
 intro _ _ _ h hp;dsimp only[iI,F0]at h;split at h<;>cases h
 rename_i sp s k;obtain⟨hw,hl⟩:=hp;refine cb Hr0 Tryz.func185 ?_
 intro O r F hO hr hF;cbv
 repeat' first|apply Zc|(apply cN<;>intro hb<;>cbv)|(refine⟨[0,2,10,11,12,13,14],[13,36],Int×af,fun s_=>match s_ with|(p,o)=>[.reg 14 (.j p),.reg 13 (.one (.vw 13 0 0 0 (O.ln o))),.leaf 13 0 ⟨0,0,none,.own (.s 2 o)⟩],fun s_=>match s_ with|(p,o)=>0<=p/\p<=k/\ML sp (shuL s sp.length) ((sp.length:Int)/2) p o,fun s_=>match s_ with|(p,o)=>(k-p).toNat,⟨(0,[]),?_,?_⟩,?_⟩;rotate_left;(focus (cbv;done));intro s_ hp;obtain⟨p,o⟩:=s_;replace hp:0<=p/\p<=k/\ML sp (shuL s sp.length) ((sp.length:Int)/2) p o:=hp;obtain⟨p0,p1,p2⟩:=hp;cbv)|(refine⟨[0,2,10,11,12,13,14,53,54,55],[13,36],Int×af,fun s_=>match s_ with|(i,q)=>[.reg 55 (.j i),.reg 13 (.one (.vw 13 0 0 0 (O.ln q))),.leaf 13 0 ⟨0,0,none,.own (.s 2 q)⟩],fun s_=>match s_ with|(i,q)=>0<=i/\i<=(sp.length:Int)/2/\MJ sp (shuL s sp.length) ((sp.length:Int)/2) p i o q,fun s_=>match s_ with|(i,q)=>((sp.length:Int)/2-i).toNat,⟨(0,o),?_,?_⟩,?_⟩;rotate_left;(focus (cbv;done));intro s_ hi;obtain⟨i,q⟩:=s_;replace hi:0<=i/\i<=(sp.length:Int)/2/\MJ sp (shuL s sp.length) ((sp.length:Int)/2) p i o q:=hi;obtain⟨i0,i1,i2⟩:=hi;cbv)|(refine ah (O.ar .add Za i 1,O.cat q (O.sub [[.i (O.pi (.s 1 (F.shuL s (O.zi (O.ln sp)))) [(O.ad (O.ad 0 0) i,0)]),.i (O.pi (.s 1 (F.shuL s (O.zi (O.ln sp)))) [(O.ad (O.ad 0 (O.ar .quo Za (O.zi (O.ln sp)) 2)) (O.ar .rem Za (O.ar .add Za i p) (O.zi (O.df (O.zi (O.ln (F.shuL s (O.zi (O.ln sp))))) (O.ar .quo Za (O.zi (O.ln sp)) 2)))),0)])]] 0 (O.ln [[.i (O.pi (.s 1 (F.shuL s (O.zi (O.ln sp)))) [(O.ad (O.ad 0 0) i,0)]),.i (O.pi (.s 1 (F.shuL s (O.zi (O.ln sp)))) [(O.ad (O.ad 0 (O.ar .quo Za (O.zi (O.ln sp)) 2)) (O.ar .rem Za (O.ar .add Za i p) (O.zi (O.df (O.zi (O.ln (F.shuL s (O.zi (O.ln sp))))) (O.ar .quo Za (O.zi (O.ln sp)) 2)))),0)])]]))) ?_ ?_ ?_;focus (cbv;done))|(refine ah (O.ar .add Za i 1,q) ?_ ?_ ?_;focus (cbv;done))|(refine ah (O.ar .add Za p 1,q) ?_ ?_ ?_;focus (cbv;done))
 all_goals(subst hO hr hF;(try simp only[nc]at*);(try simp only[aj,SS,sa,az]at*))
 all_goals(have n0:(0:Int)<=sp.length:=Int.natCast_nonneg _;(try have n1:(sp.length:Int)<=16:=by assumption);(try have kk:=ay.1 (by assumption:inR k 0 16=true));(try have ks:inR s 0 1073741823=true:=by assumption);(try have nn:inR (sp.length:Int) 0 64=true:=ay.2 ⟨Uc,Uc⟩);(try have ol:=HI ks nn);(try have oi:=LP ks nn);(try have ow:=abl (s:=s) (n:=sp.length));(try have q2:=aj7 n0 n1);(try simp only[q2]at*);(try simp only[af5]at*);(try simp only[aj5 n0]at*);(try simp only[aj8 ol n0]at*);(try rw[db Uc Uc]);(try have S:=(by assumption:ML sp (shuL s sp.length) ((sp.length:Int)/2) p o));(try have F:=(by assumption:MJ sp (shuL s sp.length) ((sp.length:Int)/2) p i o q));(try have sb:=aj2 S Uc Uc Uc Uc);(try have fl:=F.l);(try have m:=aj6 (n:=sp.length) (i:=i) (p:=p) Uc Uc Uc Uc n1);(try simp only[m.1]at*);(try simp only[aj4 n0 m.2.1]at*);(try have i0:0<=i:=by omega);(try have r0:0<=(sp.length:Int)/2+(i+p)%(sp.length- (sp.length:Int)/2):=by omega);(try simp only[pP i0,pP r0]at*);(try have la:=oi.at i0 Uc);(try have lb:=oi.at r0 Uc))
 all_goals first
  | (show(_:List DV)=_
     first
      |exact wM (IH (af1 Ud)).1.symm (IH (af1 Ud)).2.symm
      |exact wM (IH (sp:=sp) (s:=s) (af2 Ud)).1.symm (IH (sp:=sp) (s:=s) (af2 Ud)).2.symm
      |exact wM (IH (sp:=sp) (k:=k) (af3 Ud)).1.symm (IH (sp:=sp) (k:=k) (af3 Ud)).2.symm
      |(have z:=OS (k:=k) S Uc (aj3 n1 Ud ks);exact wM z.1 z.2)
      |done)
  |(show bz _ _=true;kernel_rfl)
  |omega
  |exact⟨Zd,Zd⟩
  |exact⟨F.r,Uc⟩
  |exact wz ow i0 Uc
  |exact wz ow r0 Uc
  |exact afW
  |exact afU S
  |exact F8 F i0 (afX Ud)
  |exact F8 F i0 (afY (by rw[pX ol];assumption))
  |exact F8 F i0 (afZ (by rw[pX ol];assumption))
  |(have z:=OQ F i0 (af0 Ud (by rw[pX ol];assumption) (by rw[pX ol];assumption)) Uc (by rw[pX ol];omega) Uc;rw[pX ol]at z;exact z)
  |(constructor<;>(simp only[List.length_cons,List.length_nil];omega))
  |exact abm S F Uc Uc Uc
  |exact j4
  |done
abbrev Mt0:di:=dH (fun F f=>match f with|36=>dF F|17=>dM F|184=>jv F|185=>iI F|186=>kv F|187=>mH F|_=>fun _=>none) (by
 intro f;dsimp only;split;exact d5;exact eA;exact tY;exact sn;exact vT;exact zz;exact dp)
def np:EC:=fun F=>fun
 |[.agg hl_]=>hL hl_ fun a0 a1 a2 a3 a4 a5 a6 a7 a8 a9 aA aB aC aD aE aF aG aH aI aJ aK aL aM aN=>(fun _=>kJ a0 a1 a2 a4 a5 a6 a7 a8 a9 aA aB aD aL,[.agg (Mu a0 a1 a2 a3 a4 a5 a6 a7 a8 a9 aA aB aC aD (F.mtD (F.mtG (F.hpI a0 a1 a2 a3 a4 a5 a6 a7 a8 a9 aA aB aC aD aE aF aG aH aI aJ aK aL aM aN) aI) a2 a6 aE) aF aG aH (F.mtO (F.mtG (F.hpI a0 a1 a2 a3 a4 a5 a6 a7 a8 a9 aA aB aC aD aE aF aG aH aI aJ aK aL aM aN) aI) a2 a6 aE aI) (F.mtJk (F.mtG (F.hpI a0 a1 a2 a3 a4 a5 a6 a7 a8 a9 aA aB aC aD aE aF aG aH aI aJ aK aL aM aN) aI) a2 a6 aE aJ) (F.mtJm (F.mtG (F.hpI a0 a1 a2 a3 a4 a5 a6 a7 a8 a9 aA aB aC aD aE aF aG aH aI aJ aK aL aM aN) aI) a2 a6 aE aK) (F.mtJc (F.mtG (F.hpI a0 a1 a2 a3 a4 a5 a6 a7 a8 a9 aA aB aC aD aE aF aG aH aI aJ aK aL aM aN) aI) a2 a6 aE aL) (F.mtJ0 (F.mtG (F.hpI a0 a1 a2 a3 a4 a5 a6 a7 a8 a9 aA aB aC aD aE aF aG aH aI aJ aK aL aM aN) aI) a2 a6 aE aM) (F.mtJ0 (F.mtG (F.hpI a0 a1 a2 a3 a4 a5 a6 a7 a8 a9 aA aB aC aD aE aF aG aH aI aJ aK aL aM aN) aI) a2 a6 aE aN)),.k (F.mtB (F.mtG (F.hpI a0 a1 a2 a3 a4 a5 a6 a7 a8 a9 aA aB aC aD aE aF aG aH aI aJ aK aL aM aN) aI) a2 a6 aE)])
 |_=>none
def tZ:ec 78 np:=by
 intro _ _ _ h hp;dsimp only[np,F0,hL]at h;split at h;rotate_left;cases h;split at h<;>cases h
 rename_i a0 a1 a2 a3 a4 a5 a6 a7 a8 a9 aA aB aC aD aE aF aG aH aI aJ aK aL aM aN;have l2:=aS (es:=a2);have c2:=hp.c2;have l6:=aS (es:=a6);have c6:=hp.c6;have ml:=Hg (e:=a2) (s:=a6);have mlm:=aep (e:=a2) (s:=a6);have mr:=(Qq (es:=a2) hp.r6).1;have mtr:=aaD (e:=a2) hp.r6;have P:=KS (e:=a2) (s:=a6) (d:=aE);have Pr:=P.1.r;refine cb Mt0 Tryz.func78 ?_
 intro O r F hO hr hF;cbv
 repeat' first|apply Zc|(apply cN<;>intro hb<;>cbv)
 all_goals(subst hO hr hF;(try simp only[nc]at*);(try simp only[aj,SS,sa,az]at*);(try have hl:((msS a2 a6).length:Int)<=16:=Ud);(try have hg:(16:Int)<(msS a2 a6).length:=Ud);(try have l2':=aeo hg);(try have ea:=aaE (e:=a2) (s:=a6) Uc);(try simp only[ea]at*);(try simp only[aer,aen,aes]at*);(try simp only[l2']at*);(try simp only[aeB]at*);(try have p0:(zJ a2 a6 aE).length≠0:=Uc);(try have z0:(zJ a2 a6 aE).length=0:=Uc);(try have I:=aem p0);(try simp only[dY (l:=zJ a2 a6 aE) (sz:=2) (j:=0) (i:=0) (by decide),dY (l:=zJ a2 a6 aE) (sz:=2) (j:=1) (i:=0) (by decide)]at*);(try simp only[af5]at*);(try simp only[dY (l:=msS a2 a6) (sz:=3) (j:=0) I.1.1,dY (l:=msS a2 a6) (sz:=3) (j:=1) I.1.1,dY (l:=msS a2 a6) (sz:=3) (j:=2) I.1.1,dY (l:=msS a2 a6) (sz:=3) (j:=0) I.2.1,dY (l:=msS a2 a6) (sz:=3) (j:=1) I.2.1,dY (l:=msS a2 a6) (sz:=3) (j:=2) I.2.1]at*);(try simp only[dY (l:=sX a2 a6) (sz:=3) (j:=0) I.1.1,dY (l:=sX a2 a6) (sz:=3) (j:=1) I.1.1,dY (l:=sX a2 a6) (sz:=3) (j:=2) I.1.1,dY (l:=sX a2 a6) (sz:=3) (j:=0) I.2.1,dY (l:=sX a2 a6) (sz:=3) (j:=1) I.2.1,dY (l:=sX a2 a6) (sz:=3) (j:=2) I.2.1]at*);(try simp only[Qv I.1.1 I.1.2,Qv I.2.1 I.2.2]at*);(try simp only[aeC]at*);(try simp only[aez,aeA,aew]at*))
 all_goals first
  | (show(_:List DV)=_
     first
      |(have g0:mtG (hpI a0 a1 a2 a3 a4 a5 a6 a7 a8 a9 aA aB aC aD aE aF aG aH aI aJ aK aL aM aN) aI=false:=(by rw[show aI=true by assumption];exact aey);rw[g0];exact rfl)
      |(have g0:mtG (hpI a0 a1 a2 a3 a4 a5 a6 a7 a8 a9 aA aB aC aD aE aF aG aH aI aJ aK aL aM aN) aI=false:=Qt Ud;rw[g0];exact rfl)
      |(have g1:mtG (hpI a0 a1 a2 a3 a4 a5 a6 a7 a8 a9 aA aB aC aD aE aF aG aH aI aJ aK aL aM aN) aI=true:=Qu Ud Ud;have b0:mtB true a2 a6 aE=false:=aeu z0;rw[g1];simp only[KQ b0,KR b0,KP b0,FD b0,Qs b0,b0];exact rfl)
      |(have g1:mtG (hpI a0 a1 a2 a3 a4 a5 a6 a7 a8 a9 aA aB aC aD aE aF aG aH aI aJ aK aL aM aN) aI=true:=Qu Ud Ud;have b1:mtB true a2 a6 aE=true:=aev rfl p0;rw[g1];simp only[aaA b1,aaC b1,aaz b1,aay b1,aek b1,b1];exact rfl)
      |done)
  | (show(_:List H)=_
     first
      |done)
  |omega
  |exact aeq
  |exact⟨mtr,Uc⟩
  |exact Fq Pr (by decide) Uc (by decide)
  |exact vp mr I.1.1 Uc
  |exact vp mr I.2.1 Uc
  |exact⟨FC.1,by have:=(FC (e:=a2) (s:=a6) (d:=aE)).2;omega⟩
  |exact hp.hp
  |exact⟨hp.r2,hp.r6,Uc,Uc⟩
  |(show bz _ _=true;kernel_rfl)
  |exact⟨Zd,Zd⟩
  |done
end Go.V