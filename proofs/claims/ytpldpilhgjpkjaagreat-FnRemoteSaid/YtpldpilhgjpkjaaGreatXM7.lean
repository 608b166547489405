/- Contracts. -/
import Derived.Test.YtpldpilhgjpkjaaGreatXM6
set_option linter.all false
open Go
open And renaming intro->Zd
open IntKind renaming i64->Za
open True renaming intro->Zb
namespace Go.V
open Go Go.Proofs
set_option maxRecDepth 1000000
set_option maxHeartbeats 8000000
abbrev Zy3:dp:=d4 (fun F f=>match f with|156=>iq F|260=>iU F|261=>kC F|154=>jk F|_=>fun _=>none) (by
 intro f;dsimp only;split;exact oh;exact sf;exact vm;exact pC;exact dB)
def fU:EP:=fun F=>fun
 |[.mp hl_,.one (.v (.int Za n))]=>hM hl_ fun a0 a1 a2 a3 a4 a5 a6 a7 a8 a9 aA aB aC aD aE aF aG aH aI aJ aK aL aM aN=>(fun _=>lq a0 a1 a2 a4 a5 a6 a7 a8 a9 aA aB aD aL/\kerOk a0 a1 a2 a3 a4=true/\0<=a3/\a3<=90000/\AN n,[(Lc (F.xpC a0 a1 a2 a3 a4 a5 n) (F.xpU a0 a1 a2 a3 a4 a5 n) (F.xpE a0 a1 a2 a3 a4 a5 n) (F.xpK a1 a2 a3 a4 a5 n) a4 (F.xpF a1 a2 a3 a4 a5 n) a6 a7 a8 a9 aA aB aC aD aE aF aG aH aI aJ aK aL aM aN)],[.j (F.xpA a1 a2 a3 a4 a5 n),.k (F.xpB a1 a2 a3 a4 a5 n)])
 |_=>none
theorem mw:ep 142 fU:=by
 intro _ _ _ _ h hp;dsimp only[fU,F0,hM]at h;split at h;rotate_left;cases h;split at h<;>cases h
 rename_i n _ a0 a1 a2 a3 a4 a5 a6 a7 a8 a9 aA aB aC aD aE aF aG aH aI aJ aK aL aM aN;obtain⟨hp,hk,c0,c1,n0,n1⟩:=hp;have km:=(jt hk).1;have re:=(jt hk).2.2.2;have q0:=hp.c0;have q1:=hp.c1;have q2:=hp.c2;have q4:=hp.c4;have q5:=hp.c5;have l2:=aO (es:=a2);have l5:=aO (es:=a5);obtain⟨t,ht⟩:∃ t,xq a2 a5 n=t:=⟨_,rfl⟩;refine pb Zy3 Tryz.func142 ?_
 intro O r os F hO hr hos hF;cbv
 repeat' first|apply Zd|(apply cP<;>intro hb<;>cbv)|(refine⟨[0,1,6,7,9,10],[0,9,24],Int×af×af×Int×af×af,fun s_=>match s_ with|(i,u,e,c,z,r)=>[.reg 10 (.j i),.leaf 9 0 ⟨0,0,none,.own (.s 1 z)⟩,.leaf 9 1 ⟨0,0,none,.own (.s 1 u)⟩,.leaf 9 2 ⟨0,0,none,.own (.s 2 e)⟩,.leaf 9 3 ⟨0,0,none,.own (.i c)⟩,.leaf 9 4 ⟨0,0,none,.own (.s 1 r)⟩],fun s_=>match s_ with|(i,u,e,c,z,r)=>0<=i/\i<=n/\AO a0 a1 a2 a3 a4 t i u e/\c=a3+i/\z=a0/\r=a4,fun s_=>match s_ with|(i,u,e,c,z,r)=>(n-i).toNat,⟨(0,a1,a2,a3,a0,a4),?_,?_⟩,?_⟩;rotate_left;(focus (cbv;done));intro s_ hi;obtain⟨i,u,e,c,z,r⟩:=s_;replace hi:0<=i/\i<=n/\AO a0 a1 a2 a3 a4 t i u e/\c=a3+i/\z=a0/\r=a4:=hi;obtain⟨i0,i1,i2,i3,i4,i5⟩:=hi;cbv)|(refine⟨[0,7,9,10,13],[0,9],Int×af×af×af×af,fun s_=>match s_ with|(p,v,w,x,y)=>[.reg 13 (.j p),.leaf 9 0 ⟨0,0,none,.own (.s 1 v)⟩,.leaf 9 1 ⟨0,0,none,.own (.s 1 w)⟩,.leaf 9 2 ⟨0,0,none,.own (.s 2 x)⟩,.leaf 9 4 ⟨0,0,none,.own (.s 1 y)⟩],fun s_=>match s_ with|(p,v,w,x,y)=>t<=p/\p<=t+i/\GN a0 u e t p v w x/\y=a4,fun s_=>match s_ with|(p,v,w,x,y)=>(t+i-p).toNat,⟨((F.tkA (F.zlI (O.sub a2 0 (O.ln a2))) (O.sub a5 0 (O.ln a5)) n),(O.sub z 0 (O.ln z)),(F.kwU (F.ccB (O.sub z 0 (O.ln z)) (O.sub u 0 (O.ln u)) (O.sub e 0 (O.ln e)) c (O.sub r 0 (O.ln r))) (O.sub u 0 (O.ln u)) (O.sub e 0 (O.ln e)) c (O.sub r 0 (O.ln r)) (O.ar .add Za (F.tkA (F.zlI (O.sub a2 0 (O.ln a2))) (O.sub a5 0 (O.ln a5)) n) i)),(F.kwE (F.ccB (O.sub z 0 (O.ln z)) (O.sub u 0 (O.ln u)) (O.sub e 0 (O.ln e)) c (O.sub r 0 (O.ln r))) (O.sub u 0 (O.ln u)) (O.sub e 0 (O.ln e)) c (O.sub r 0 (O.ln r)) (O.ar .add Za (F.tkA (F.zlI (O.sub a2 0 (O.ln a2))) (O.sub a5 0 (O.ln a5)) n) i)),(O.sub r 0 (O.ln r))),?_,?_⟩,?_⟩;rotate_left;(focus (cbv;done));intro s_ hp;obtain⟨p,v,w,x,y⟩:=s_;replace hp:t<=p/\p<=t+i/\GN a0 u e t p v w x/\y=a4:=hp;obtain⟨p0,p1,p2,p3⟩:=hp;cbv)|(refine ah (O.ar .add Za i 1,(F.kwU (F.ccB (O.sub z 0 (O.ln z)) (O.sub u 0 (O.ln u)) (O.sub e 0 (O.ln e)) c (O.sub r 0 (O.ln r))) (O.sub u 0 (O.ln u)) (O.sub e 0 (O.ln e)) c (O.sub r 0 (O.ln r)) (O.ar .add Za (F.tkA (F.zlI (O.sub a2 0 (O.ln a2))) (O.sub a5 0 (O.ln a5)) n) i)),(F.kwE (F.ccB (O.sub z 0 (O.ln z)) (O.sub u 0 (O.ln u)) (O.sub e 0 (O.ln e)) c (O.sub r 0 (O.ln r))) (O.sub u 0 (O.ln u)) (O.sub e 0 (O.ln e)) c (O.sub r 0 (O.ln r)) (O.ar .add Za (F.tkA (F.zlI (O.sub a2 0 (O.ln a2))) (O.sub a5 0 (O.ln a5)) n) i)),(F.kqN (F.ccB (O.sub z 0 (O.ln z)) (O.sub u 0 (O.ln u)) (O.sub e 0 (O.ln e)) c (O.sub r 0 (O.ln r))) c),(O.sub z 0 (O.ln z)),(O.sub r 0 (O.ln r))) ?_ ?_ ?_;focus (cbv;done))|(refine ah (O.ar .add Za p 1,(F.ktC (F.ccB (O.sub v 0 (O.ln v)) (O.sub w 0 (O.ln w)) (O.sub x 0 (O.ln x)) (F.kqN (F.ccB (O.sub z 0 (O.ln z)) (O.sub u 0 (O.ln u)) (O.sub e 0 (O.ln e)) c (O.sub r 0 (O.ln r))) c) (O.sub y 0 (O.ln y))) (O.sub v 0 (O.ln v)) (O.sub x 0 (O.ln x)) p),(F.ktU (F.ccB (O.sub v 0 (O.ln v)) (O.sub w 0 (O.ln w)) (O.sub x 0 (O.ln x)) (F.kqN (F.ccB (O.sub z 0 (O.ln z)) (O.sub u 0 (O.ln u)) (O.sub e 0 (O.ln e)) c (O.sub r 0 (O.ln r))) c) (O.sub y 0 (O.ln y))) (O.sub w 0 (O.ln w)) (O.sub x 0 (O.ln x)) p),(F.ktE (F.ccB (O.sub v 0 (O.ln v)) (O.sub w 0 (O.ln w)) (O.sub x 0 (O.ln x)) (F.kqN (F.ccB (O.sub z 0 (O.ln z)) (O.sub u 0 (O.ln u)) (O.sub e 0 (O.ln e)) c (O.sub r 0 (O.ln r))) c) (O.sub y 0 (O.ln y))) (O.sub x 0 (O.ln x)) p),(O.sub y 0 (O.ln y))) ?_ ?_ ?_;focus (cbv;done))
 all_goals((try subst hos);subst hO hr hF;(try simp only[nc]at*);(try simp only[aj,SS,sa,az]at*);(try have hT:tkB (zlI a2) a5 n=true:=(by assumption));(try have at_:=J2 hT);(try rw[ht]at at_);(try simp only[show tkA (zlI a2) a5 n=t from ht]at*);(try obtain rfl:=i3);(try obtain rfl:=i4);(try obtain rfl:=i5);(try obtain rfl:=p3);(try have cc:=adJ hk i2 c0 c1 i0 (by omega));(try have wc:=R4 hp.r0 i2);(try have e1:bO .add Za t i=t+i:=cG (by omega));(try have e2:bO .add Za i 1=i+1:=cG (by omega));(try have e3:bO .add Za p 1=p+1:=cG (by omega));(try simp only[e1]at*);(try simp only[e2]at*);(try simp only[e3]at*);(try simp only[cc]at*);(try have kq:=afe (c:=a3+i));(try simp only[kq]at*);(try have c2:=adH hk p2.m (c:=a3+i+1) (by omega) (by omega));(try have kk:=Qt (cs:=v) (us:=w) (es:=x) (p:=p) c2);(try have dc:=ze p2))
 all_goals first
  | (show(_:List DV)=_
     first
      |(have q:=adF (a0:=a0) (a1:=a1) (a3:=a3) (a4:=a4) (by assumption:tkB (zlI a2) a5 n=false);first|(rw[q.2.2.2.2.2.1,q.2.2.2.2.2.2];done)|(rw[q.2.2.2.2.2.1,q.2.2.2.2.2.2];exact rfl))
      |(have q:=Ou ht hT i2 i0 (by omega) (by assumption) p2 (by omega) (by omega);first|(rw[q.2.2.2.2.2.1,q.2.2.2.2.2.2];done)|(rw[q.2.2.2.2.2.1,q.2.2.2.2.2.2];exact rfl))
      |(have q:=Ow ht hT i2 i0 (by omega) (by omega);first|(rw[q.2.2.2.2.2.1,q.2.2.2.2.2.2];done)|(rw[q.2.2.2.2.2.1,q.2.2.2.2.2.2];exact rfl))
      |done)
  | (show(_:List H)=_
     first
      |(have q:=adF (a0:=a0) (a1:=a1) (a3:=a3) (a4:=a4) (by assumption:tkB (zlI a2) a5 n=false);first|(rw[q.1,q.2.1,q.2.2.1,q.2.2.2.1,q.2.2.2.2.1];done)|(rw[q.1,q.2.1,q.2.2.1,q.2.2.2.1,q.2.2.2.2.1];exact rfl))
      |(have q:=Ou ht hT i2 i0 (by omega) (by assumption) p2 (by omega) (by omega);first|(rw[q.1,q.2.1,q.2.2.1,q.2.2.2.1,q.2.2.2.2.1];done)|(rw[q.1,q.2.1,q.2.2.1,q.2.2.2.1,q.2.2.2.2.1];exact rfl))
      |(have q:=Ow ht hT i2 i0 (by omega) (by omega);first|(rw[q.1,q.2.1,q.2.2.1,q.2.2.2.1,q.2.2.2.2.1];done)|(rw[q.1,q.2.1,q.2.2.1,q.2.2.2.1,q.2.2.2.2.1];exact rfl))
      |done)
  |omega
  |exact fK
  |exact⟨by unfold zlI;omega,by unfold zlI;omega,hp.r5,by omega,n0,n1⟩
  |exact⟨hp.r0,i2.ru,i2.re,hp.r4,by omega,by omega,by omega,by omega⟩
  |exact⟨p2.rc,p2.ru,p2.re,hp.r4,by omega,by omega,by omega,by omega⟩
  |exact agm i2 i0 (by assumption)
  |exact agl hp.r0 i2 (by assumption)
  |exact adK km hp.r1 hp.r2
  |(rw[kk.1,kk.2.1,kk.2.2.1];exact CY p2 p0)
  |(show ax _ _=true;kernel_rfl)
  |exact⟨Zb,Zb⟩
  |exact Zb
  |done
abbrev Zy4:dp:={
 Φ:=tW
 F0:=F0
 ot:=fun F f=>match f with|262=>some (am F)|_=>none
 ho:=(by
  intro f mk h;dsimp only at h;split at h<;>cases h
  exact cF)}
def ip:EP:=fun F=>fun
 |[.mp hl_,.agg [.v (.int Za p),.v (.int Za k),.v (.int Za b)]]=>hM hl_ fun a0 a1 a2 a3 a4 a5 a6 a7 a8 a9 aA aB aC aD aE aF aG aH aI aJ aK aL aM aN=>(fun _=>Rw [tI,tI,tI] a6/\a6.length<=1073741824,[(Lc a0 a1 a2 a3 a4 a5 (F.isL a6 p k b) a7 a8 a9 aA aB aC aD aE aF aG aH aI aJ aK aL aM aN)],[.j (F.isI a6 p)])
 |_=>none
theorem qD:ep 143 ip:=by
 intro _ _ _ _ h hp;dsimp only[ip,F0,hM]at h;split at h;rotate_left;cases h;split at h<;>cases h
 rename_i p k b _ a0 a1 a2 a3 a4 a5 a6 a7 a8 a9 aA aB aC aD aE aF aG aH aI aJ aK aL aM aN;obtain⟨h6,l6⟩:=hp;refine pb Zy4 Tryz.func143 ?_
 intro O r os F hO hr hos hF;cbv
 repeat' first|apply Zd|(apply cP<;>intro hb<;>cbv)|(refine⟨[0,3,5],[0,3],Int,fun i=>[.reg 5 (.j i)],fun i=>0<=i/\i<=((a6.length:Nat):Int)/\upto (cR (Gp a6 0 p)) i,fun i=>(a6.length)-i.toNat,⟨0,?_,?_⟩,?_⟩;rotate_left;(focus (cbv;done));intro i hi;replace hi:0<=i/\i<=((a6.length:Nat):Int)/\upto (cR (Gp a6 0 p)) i:=hi;obtain⟨i0,i1,i2⟩:=hi;cbv)|(refine ah (O.ar .add Za i 1) ?_ ?_ ?_;focus (cbv;done))
 all_goals((try subst hos);subst hO hr hF;(try simp only[nc]at*);(try simp only[aj,SS,sa,az]at*);(try rw[dx (by omega) (by omega)]);(try simp only[gV (l:=a6) (sz:=3) (j:=0) i0,gV (l:=a6) (sz:=3) (j:=1) i0,gV (l:=a6) (sz:=3) (j:=2) i0]at*))
 all_goals first
  | (show(_:List DV)=_
     first
      |exact cB (E9 i2 i0 (by omega) (by omega))
      |exact cB (zx i2 (by omega) (by omega))
      |done)
  | (show(_:List H)=_
     first
      |(have z:=E9 (j:=0) (x:=p) i2 i0 (by omega) (by omega);subst z;exact rfl)
      |(have z:=zx (j:=0) (x:=p) i2 (by omega) (by omega);subst z;exact rfl)
      |done)
  |omega
  |exact fK
  |exact cg
  |exact Qw i2 (by omega)
  |exact tC h6 i0 (by omega) (by decide)
  |exact⟨i0,by omega,l6,Rw.scal (fs:=[tI,tI,tI]) h6 rfl,by simp[bE,eF,scal],rfl⟩
  |(show ax _ _=true;kernel_rfl)
  |exact⟨Zb,Zb⟩
  |exact Zb
  |done
abbrev Zy5:dp:=d4 (fun F f=>match f with|255=>di F|256=>gH F|254=>fP F|257=>ji F|258=>gI F|259=>eL F|_=>fun _=>none) (by
 intro f;dsimp only;split;exact d8;exact nI;exact mn;exact pB;exact nJ;exact jG;exact dB)
def ic:EP:=fun F=>fun
 |[.mp hl_,.one (.v (.int Za i))]=>hM hl_ fun a0 a1 a2 a3 a4 a5 a6 a7 a8 a9 aA aB aC aD aE aF aG aH aI aJ aK aL aM aN=>(fun _=>lq a0 a1 a2 a4 a5 a6 a7 a8 a9 aA aB aD aL/\0<=i/\i<a6.length/\spOk (ag a6 i 0) (ag a6 i 1) (ag a6 i 2)=true/\inR aE 0 1073741823=true,[(Lc a0 a1 a2 a3 a4 a5 (F.xcS a2 a6 aE i) a7 a8 a9 aA aB aC aD (F.xcD a2 a6 aE i) aF aG aH aI aJ aK aL aM aN)],[.j (F.xcA a2 a6 aE i),.k (F.xcB a2 a6 i)])
 |_=>none
theorem qv:ep 141 ic:=by
 intro _ _ _ _ h hp;dsimp only[ic,F0,hM]at h;split at h;rotate_left;cases h;split at h<;>cases h
 rename_i i _ a0 a1 a2 a3 a4 a5 a6 a7 a8 a9 aA aB aC aD aE aF aG aH aI aJ aK aL aM aN;obtain⟨hp,i0,i1,hs,hd⟩:=hp;have h6:=hp.r6;have c6:=hp.c6;have c2:=hp.c2;have l2:=aO (es:=a2);have l6:=aO (es:=a6);have g0:=gV (l:=a6) (sz:=3) (j:=0) i0;have g1:=gV (l:=a6) (sz:=3) (j:=1) i0;have g2:=gV (l:=a6) (sz:=3) (j:=2) i0;have gf:frL (slN (ag a6 i 1)) (ubB a2 a6 i)=pq a2 a6 i:=rfl;refine pb Zy5 Tryz.func141 ?_
 intro O r os F hO hr hos hF;cbv
 repeat' first|apply Zd|(apply cP<;>intro hb<;>cbv)
 all_goals((try subst hos);subst hO hr hF;(try simp only[nc]at*);(try simp only[aj,SS,sa,az]at*);(try simp only[g0,g1,g2]at*);(try simp only[gf]at*);(try have X:=FU hs hd (by omega:¬ (pq a2 a6 i).length=0));(try have eT:zI (.s 1 (pq a2 a6 i)) [((cuI aE ((pq a2 a6 i).length:Int)).toNat,0)]=o5 a2 a6 aE i:=gV X.k0);(try simp only[eT]at*);(try have U:=agc h6 i0 i1 X);(try simp only[U.u]at*);(try simp only[U.g0,U.g1,U.g2]at*);(try have q:=Mz (s:=aE) (by omega:¬ (pq a2 a6 i).length=0)))
 all_goals first
  | (show(_:List DV)=_
     first
      |(have q:=My (s:=aE) (by omega:(pq a2 a6 i).length=0);first|(rw[q.2.2.2,q.1];done)|(rw[q.2.2.2,q.1];exact rfl))
      |(have q:=My (s:=aE) (by omega:(pq a2 a6 i).length=0);first|(rw[q.2.2.2];done)|(rw[q.2.2.2];exact rfl))
      |(first|(rw[q.2.2.2,q.1];done)|(rw[q.2.2.2,q.1];exact rfl))
      |(first|(rw[q.2.2.2,X.aa];done)|(rw[q.2.2.2,X.aa];exact rfl))
      |done)
  | (show(_:List H)=_
     first
      |(have q:=My (s:=aE) (by omega:(pq a2 a6 i).length=0);rw[q.2.1,q.2.2.1];exact rfl)
      |(rw[q.2.1,q.2.2.1];exact rfl)
      |done)
  |omega
  |exact fK
  |exact⟨X.k0,X.k1⟩
  |exact tA h6 i0 (by omega)
  |exact tA U.w i0 U.l
  |exact⟨hp.r2,hp.r6,by omega,by omega⟩
  |exact abz X.r X.k0 X.k1
  |exact acV h6 i0 i1 (by decide)
  |exact⟨i0,U.l⟩
  |exact⟨i0,i1⟩
  |(show ax _ _=true;kernel_rfl)
  |exact⟨Zb,Zb⟩
  |exact Zb
  |done
abbrev Zp0:dp:=d4 (fun F f=>match f with|255=>di F|256=>gH F|254=>fP F|257=>ji F|258=>gI F|259=>eL F|_=>fun _=>none) (by
 intro f;dsimp only;split;exact d8;exact nI;exact mn;exact pB;exact nJ;exact jG;exact dB)
def gh:EC:=fun F=>fun
 |[.ptr hl_,.one (.v (.int Za i))]=>hL hl_ fun a0 a1 a2 a3 a4 a5 a6 a7 a8 a9 aA aB aC aD aE aF aG aH aI aJ aK aL aM aN=>(fun _=>lq a0 a1 a2 a4 a5 a6 a7 a8 a9 aA aB aD aL/\0<=i/\i<a6.length/\spOk (ag a6 i 0) (ag a6 i 1) (ag a6 i 2)=true/\inR aE 0 1073741823=true/\xcB a2 a6 i=false,[.j (-1),.k false])
 |_=>none
theorem pv:ec 141 gh:=by
 intro _ _ _ h hp;dsimp only[gh,F0,hL]at h;split at h;rotate_left;cases h;split at h<;>cases h
 rename_i i _ a0 a1 a2 a3 a4 a5 a6 a7 a8 a9 aA aB aC aD aE aF aG aH aI aJ aK aL aM aN;obtain⟨hp,i0,i1,hs,hd,hx⟩:=hp;have hx:=VW hx;have h6:=hp.r6;have c6:=hp.c6;have c2:=hp.c2;have l2:=aO (es:=a2);have l6:=aO (es:=a6);have g1:=gV (l:=a6) (sz:=3) (j:=1) i0;have gf:frL (slN (ag a6 i 1)) (ubB a2 a6 i)=pq a2 a6 i:=rfl;refine cb Zp0 Tryz.func141 ?_
 intro O r F hO hr hF;cbv
 repeat' first|apply Zd|(apply cP<;>intro hb<;>cbv)
 all_goals(subst hO hr hF;(try simp only[nc]at*);(try simp only[aj,SS,sa,az]at*);(try simp only[g1]at*);(try simp only[gf]at*))
 all_goals first
  | (show(_:List DV)=_
     first
      |exact rfl
      |done)
  | (show(_:List H)=_
     first
      |done)
  |omega
  |exact fK
  |(exfalso;omega)
  |exact tA h6 i0 (by omega)
  |exact⟨hp.r2,hp.r6,by omega,by omega⟩
  |exact⟨i0,i1⟩
  |(show ax _ _=true;kernel_rfl)
  |exact⟨Zb,Zb⟩
  |exact Zb
  |done
abbrev Zp1:dp:={
 Φ:=tW
 F0:=F0
 ct:=fun F f=>match f with|139=>iM F|140=>lG F|141=>gh F|_=>fun _=>none
 hc:=(by
  intro f;dsimp only;split;exact rR;exact te;exact pv;exact dB)
 pt:=fun F f=>match f with|141=>some (ic F)|142=>some (fU F)|143=>some (ip F)|_=>none
 hp:=(by
  intro f mk h;dsimp only at h;split at h<;>cases h
  exact qv;exact mw;exact qD)}
def iY:EP:=fun F=>fun
 |[.mp hl_,.one (.v (.int Za t)),.one (.v (.int Za k))]=>hM hl_ fun a0 a1 a2 a3 a4 a5 a6 a7 a8 a9 aA aB aC aD aE aF aG aH aI aJ aK aL aM aN=>(fun _=>lq a0 a1 a2 a4 a5 a6 a7 a8 a9 aA aB aD aL/\hpI a0 a1 a2 a3 a4 a5 a6 a7 a8 a9 aA aB aC aD aE aF aG aH aI aJ aK aL aM aN=true/\a3<=90000/\inR t 0 (a9.length-1)=true/\inR k 0 3=true/\ap a6<=1000000000/\ap a9<=300000000,[(Lc (F.xmC a0 a1 a2 a3 a4 a5 a6 a9 aE aI aJ aK t k) (F.xmU a0 a1 a2 a3 a4 a5 a6 a9 aE aI aJ aK t k) (F.xmE a0 a1 a2 a3 a4 a5 a6 a9 aE aI aJ aK t k) (F.xmK a0 a1 a2 a3 a4 a5 a6 a9 aE aI aJ aK t k) a4 (F.xmF a0 a1 a2 a3 a4 a5 a6 a9 aE aI aJ aK t k) (F.xmS a0 a1 a2 a3 a4 a5 a6 a9 aE aI aJ aK t k) a7 a8 (F.xmX a0 a1 a2 a3 a4 a5 a6 a9 aE aI aJ aK t k) aA aB aC aD (F.xmD a0 a1 a2 a3 a4 a5 a6 a9 aE aI aJ aK t k) aF aG aH aI aJ aK aL aM aN)],[.j (F.xmA a0 a1 a2 a3 a4 a5 a6 a9 aE aI aJ aK t k),.k (F.xmB a0 a1 a2 a3 a4 a5 a6 a9 aE aI aJ aK t k)])
 |_=>none
theorem sk:ep 39 iY:=by
 intro _ _ _ _ h hp;dsimp only[iY,F0,hM]at h;split at h;rotate_left;cases h;split at h<;>cases h
 rename_i t k _ a0 a1 a2 a3 a4 a5 a6 a7 a8 a9 aA aB aC aD aE aF aG aH aI aJ aK aL aM aN;obtain⟨hp,hk,c1,ht,kk,c6,c9⟩:=hp;have HH:=gB hk;have km:=(jt HH.k).1;have c0:=(jt HH.k).2.1;have tr:=be.1 ht;have l6:=aO (es:=a6);have l9:=aO (es:=a9);have h6:=hp.r6;have kr:=be.1 kk;refine Q5 Zp1 (T:={tab with alL:=[(9,())]}) tQ mixed 86 _ [3,4] [.tmp 6,.tmp 7] Tryz.func39 rfl rfl rfl rfl rfl rfl rfl ?_;intro O r os F hO hr hos hF;cbv
 repeat' first|apply Zd|(apply cP<;>intro hb<;>cbv)|(refine⟨[0,2,42,43,44],[0],Int,fun i=>[.reg 44 (.j i)],fun i=>0<=i/\i<=(a6.length:Int)/\upto (cR (Cm a2 a6 aI aJ aK k)) i,fun i=>(a6.length-i).toNat,⟨0,?_,?_⟩,?_⟩;rotate_left;(focus (cbv;done));intro i hi;replace hi:0<=i/\i<=(a6.length:Int)/\upto (cR (Cm a2 a6 aI aJ aK k)) i:=hi;obtain⟨i0,i1,i2⟩:=hi;cbv)|((refine afE (xcB a2 a6 i) (fun hb=>?_) (fun hb=>?_)))|(refine ah (O.ar .add Za i 1) ?_ ?_ ?_;focus (cbv;done))
 all_goals((try subst hos);subst hO hr hF;(try simp only[nc]at*);(try simp only[aj,SS,sa,az]at*);(try simp only[eE]at*);(try rw[dx (by omega) (by omega)]);(try simp only[gV (l:=a6) (sz:=3) (j:=0) i0,gV (l:=a6) (sz:=3) (j:=1) i0,gV (l:=a6) (sz:=3) (j:=2) i0]at*);(try have xb:=R7 (by assumption:Oy a1 a2 a3 a4 a5 a6 k<0));(try have xb:=R8 (by assumption:0<=Oy a1 a2 a3 a4 a5 a6 k));(try simp only[(adL xb).1,(adL xb).2]at*);(try simp only[agn xb]at*);(try have xb:xpB a1 a2 a3 a4 a5 1=false:=(by assumption));(try have xb:xpB a1 a2 a3 a4 a5 1=true:=(by assumption));(try have cf:ctB (aw a9 t 0) k=false:=(by assumption));(try have q:=adu (a0:=a0) (a1:=a1) (a2:=a2) (a3:=a3) (a4:=a4) (a5:=a5) (a6:=a6) (a9:=a9) (aE:=aE) (aI:=aI) (aJ:=aJ) (aK:=aK) (by assumption:ctB (aw a9 t 0) k=true));(try have q:=adx (a0:=a0) (a1:=a1) (a2:=a2) (a3:=a3) (a4:=a4) (a5:=a5) (a6:=a6) (a9:=a9) (aE:=aE) (aI:=aI) (aJ:=aJ) (aK:=aK) (t:=t) (k:=k) cf (Or i2 (by omega)) xb);(try have q:=ady (a0:=a0) (a1:=a1) (a2:=a2) (a3:=a3) (a4:=a4) (a5:=a5) (a6:=a6) (a9:=a9) (aE:=aE) (aI:=aI) (aJ:=aJ) (aK:=aK) (t:=t) (k:=k) cf (Or i2 (by omega)) xb);(try have q:=adw (a0:=a0) (a1:=a1) (a2:=a2) (a3:=a3) (a4:=a4) (a5:=a5) (a6:=a6) (a9:=a9) (aE:=aE) (aI:=aI) (aJ:=aJ) (aK:=aK) (t:=t) (k:=k) cf i0 (adz i2 i0 (by omega) (by assumption) (by assumption) (by assumption))))
 all_goals first
  | (show(_:List DV)=_
     first
      |(first|(rw[q.2.2.2.2.2.2.2.2.1,q.2.2.2.2.2.2.2.2.2];done)|(rw[q.2.2.2.2.2.2.2.2.1,q.2.2.2.2.2.2.2.2.2];exact rfl))
      |(first|(rw[q.2.2.2.2.2.2.2.2.1];done)|(rw[q.2.2.2.2.2.2.2.2.1];exact rfl))
      |(exfalso;omega)
      |done)
  | (show(_:List H)=_
     first
      |(first|(rw[q.1,q.2.1,q.2.2.1,q.2.2.2.1,q.2.2.2.2.1,q.2.2.2.2.2.1,q.2.2.2.2.2.2.1,q.2.2.2.2.2.2.2.1];done)|(rw[q.1,q.2.1,q.2.2.1,q.2.2.2.1,q.2.2.2.2.1,q.2.2.2.2.2.1,q.2.2.2.2.2.2.1,q.2.2.2.2.2.2.2.1];exact rfl))
      |(first|(rw[q.1,q.2.1,q.2.2.1,q.2.2.2.1,q.2.2.2.2.1,q.2.2.2.2.2.1,q.2.2.2.2.2.2.1,q.2.2.2.2.2.2.2.1,Oj hp.r9 tr.1 (by omega)];done)|(rw[q.1,q.2.1,q.2.2.1,q.2.2.2.1,q.2.2.2.2.1,q.2.2.2.2.2.1,q.2.2.2.2.2.2.1,q.2.2.2.2.2.2.2.1,Oj hp.r9 tr.1 (by omega)];exact rfl))
      |(exfalso;omega)
      |done)
  |omega
  |exact fK
  |exact Bg hp.r9 tr.1 (by omega)
  |exact yk hp.r9 tr.1 (by omega)
  |exact⟨kV hp.r9 tr.1 (by omega),Nat.le_trans eX (by omega)⟩
  |exact yE hp.r9 tr.1 (by omega)
  |exact tA h6 i0 (by omega)
  |exact tC h6 i0 (by omega) (by decide)
  |exact cg
  |exact adB i2 (by assumption)
  |exact adC i2 (by assumption)
  |exact adD i2 (by assumption)
  |exact⟨hp,i0,by omega,FW hk i0 (by omega),HH.s⟩
  |exact⟨hp,i0,by omega,FW hk i0 (by omega),HH.s,by assumption⟩
  |exact⟨hp,HH.k,c0,c1,by omega,by omega⟩
  |exact⟨hp.r6,by omega⟩
  |exact R2 hp km c6 kk HH.s xb
  |exact absurd ((by assumption:xcB a2 a6 i=true).symm.trans (by assumption:xcB a2 a6 i=false)) Bool.noConfusion
  |exact absurd (ado (FW hk i0 (by omega)) HH.s (by assumption)) (by omega)
  |(show ax _ _=true;kernel_rfl)
  |exact⟨Zb,Zb⟩
  |exact Zb
  |done
end Go.V