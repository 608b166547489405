/- Contracts. -/
import Derived.Test.YtbedjnlfdopeeaaGreatYM6
set_option linter.all false
open Go
open And renaming intro->Zb
open IntKind renaming i64->Za
open True renaming intro->Zf
namespace Go.V
open Go Go.Proofs
set_option maxRecDepth 1000000
set_option maxHeartbeats 8000000
abbrev Zy3:cZ:={
 Φ:=qp
 F0:=F0
 ct:=fun F f=>match f with|192=>lY F|295=>dE F|296=>lV F|190=>nH F|276=>iq F|287=>dE F|_=>fun _=>none
 hc:=(by
  intro f;dsimp only;split;exact yW;exact uZ;exact yQ;exact Bo;exact qb;exact oK;exact db)
 pt:=fun F f=>match f with|288=>some (j5 F)|_=>none
 hp:=(by
  intro f mk h;dsimp only at h;split at h<;>cases h
  exact sD)}
def gU:EP:=fun F=>fun
 |[.mp hl_,.one (.v (.int Za n))]=>hM hl_ fun a0 a1 a2 a3 a4 a5 a6 a7 a8 a9 aA aB aC aD aE aF aG aH aI aJ aK aL aM aN=>(fun _=>si a0 a1 a2 a4 a5 a6 a7 a8 a9 aA aB aD aL/\kerOk a0 a1 a2 a3 a4=true/\0<=a3/\a3<=90000/\NS n,[(NY (F.xpC a0 a1 a2 a3 a4 a5 n) (F.xpU a0 a1 a2 a3 a4 a5 n) (F.xpE a0 a1 a2 a3 a4 a5 n) (F.xpK a1 a2 a3 a4 a5 n) a4 (F.xpF a1 a2 a3 a4 a5 n) a6 a7 a8 a9 aA aB aC aD aE aF aG aH aI aJ aK aL aM aN)],[.j (F.xpA a1 a2 a3 a4 a5 n),.k (F.xpB a1 a2 a3 a4 a5 n)])
 |_=>none
theorem oG:ep 203 gU:=by
 intro _ _ _ _ h hp;dsimp only[gU,F0,hM]at h;split at h;rotate_left;cases h;split at h<;>cases h
 rename_i n _ a0 a1 a2 a3 a4 a5 a6 a7 a8 a9 aA aB aC aD aE aF aG aH aI aJ aK aL aM aN;obtain⟨hp,hk,c0,c1,n0,n1⟩:=hp;have km:=(kf hk).1;have re:=(kf hk).2.2.2;have q0:=hp.c0;have q1:=hp.c1;have q2:=hp.c2;have q4:=hp.c4;have q5:=hp.c5;have l2:=aw (es:=a2);have l5:=aw (es:=a5);obtain⟨t,ht⟩:∃ t,qq a2 a5 n=t:=⟨_,rfl⟩;refine pb Zy3 Tryz.func203 ?_
 intro O r os F hO hr hos hF;cbv
 repeat' first|apply Zb|(apply bG<;>intro hb<;>cbv)|(refine⟨[0,1,6,7,9,10],[0,9,24],Int×af×af×Int×af×af,fun s_=>match s_ with|(i,u,e,c,z,r)=>[.reg 10 (.j i),.leaf 9 0 ⟨0,0,none,.own (.s 1 z)⟩,.leaf 9 1 ⟨0,0,none,.own (.s 1 u)⟩,.leaf 9 2 ⟨0,0,none,.own (.s 2 e)⟩,.leaf 9 3 ⟨0,0,none,.own (.i c)⟩,.leaf 9 4 ⟨0,0,none,.own (.s 1 r)⟩],fun s_=>match s_ with|(i,u,e,c,z,r)=>0<=i/\i<=n/\Df a0 a1 a2 a3 a4 t i u e/\c=a3+i/\z=a0/\r=a4,fun s_=>match s_ with|(i,u,e,c,z,r)=>(n-i).toNat,⟨(0,a1,a2,a3,a0,a4),?_,?_⟩,?_⟩;rotate_left;(focus (cbv;done));intro s_ hi;obtain⟨i,u,e,c,z,r⟩:=s_;replace hi:0<=i/\i<=n/\Df a0 a1 a2 a3 a4 t i u e/\c=a3+i/\z=a0/\r=a4:=hi;obtain⟨i0,i1,i2,i3,i4,i5⟩:=hi;cbv)|(refine⟨[0,7,9,10,13],[0,9],Int×af×af×af×af,fun s_=>match s_ with|(p,v,w,x,y)=>[.reg 13 (.j p),.leaf 9 0 ⟨0,0,none,.own (.s 1 v)⟩,.leaf 9 1 ⟨0,0,none,.own (.s 1 w)⟩,.leaf 9 2 ⟨0,0,none,.own (.s 2 x)⟩,.leaf 9 4 ⟨0,0,none,.own (.s 1 y)⟩],fun s_=>match s_ with|(p,v,w,x,y)=>t<=p/\p<=t+i/\Kj a0 u e t p v w x/\y=a4,fun s_=>match s_ with|(p,v,w,x,y)=>(t+i-p).toNat,⟨((F.tkA (F.zlI (O.sub a2 0 (O.ln a2))) (O.sub a5 0 (O.ln a5)) n),(O.sub z 0 (O.ln z)),(F.kwU (F.ccB (O.sub z 0 (O.ln z)) (O.sub u 0 (O.ln u)) (O.sub e 0 (O.ln e)) c (O.sub r 0 (O.ln r))) (O.sub u 0 (O.ln u)) (O.sub e 0 (O.ln e)) c (O.sub r 0 (O.ln r)) (O.ar .add Za (F.tkA (F.zlI (O.sub a2 0 (O.ln a2))) (O.sub a5 0 (O.ln a5)) n) i)),(F.kwE (F.ccB (O.sub z 0 (O.ln z)) (O.sub u 0 (O.ln u)) (O.sub e 0 (O.ln e)) c (O.sub r 0 (O.ln r))) (O.sub u 0 (O.ln u)) (O.sub e 0 (O.ln e)) c (O.sub r 0 (O.ln r)) (O.ar .add Za (F.tkA (F.zlI (O.sub a2 0 (O.ln a2))) (O.sub a5 0 (O.ln a5)) n) i)),(O.sub r 0 (O.ln r))),?_,?_⟩,?_⟩;rotate_left;(focus (cbv;done));intro s_ hp;obtain⟨p,v,w,x,y⟩:=s_;replace hp:t<=p/\p<=t+i/\Kj a0 u e t p v w x/\y=a4:=hp;obtain⟨p0,p1,p2,p3⟩:=hp;cbv)|(refine ag (O.ar .add Za i 1,(F.kwU (F.ccB (O.sub z 0 (O.ln z)) (O.sub u 0 (O.ln u)) (O.sub e 0 (O.ln e)) c (O.sub r 0 (O.ln r))) (O.sub u 0 (O.ln u)) (O.sub e 0 (O.ln e)) c (O.sub r 0 (O.ln r)) (O.ar .add Za (F.tkA (F.zlI (O.sub a2 0 (O.ln a2))) (O.sub a5 0 (O.ln a5)) n) i)),(F.kwE (F.ccB (O.sub z 0 (O.ln z)) (O.sub u 0 (O.ln u)) (O.sub e 0 (O.ln e)) c (O.sub r 0 (O.ln r))) (O.sub u 0 (O.ln u)) (O.sub e 0 (O.ln e)) c (O.sub r 0 (O.ln r)) (O.ar .add Za (F.tkA (F.zlI (O.sub a2 0 (O.ln a2))) (O.sub a5 0 (O.ln a5)) n) i)),(F.kqN (F.ccB (O.sub z 0 (O.ln z)) (O.sub u 0 (O.ln u)) (O.sub e 0 (O.ln e)) c (O.sub r 0 (O.ln r))) c),(O.sub z 0 (O.ln z)),(O.sub r 0 (O.ln r))) ?_ ?_ ?_;focus (cbv;done))|(refine ag (O.ar .add Za p 1,(F.ktC (F.ccB (O.sub v 0 (O.ln v)) (O.sub w 0 (O.ln w)) (O.sub x 0 (O.ln x)) (F.kqN (F.ccB (O.sub z 0 (O.ln z)) (O.sub u 0 (O.ln u)) (O.sub e 0 (O.ln e)) c (O.sub r 0 (O.ln r))) c) (O.sub y 0 (O.ln y))) (O.sub v 0 (O.ln v)) (O.sub x 0 (O.ln x)) p),(F.ktU (F.ccB (O.sub v 0 (O.ln v)) (O.sub w 0 (O.ln w)) (O.sub x 0 (O.ln x)) (F.kqN (F.ccB (O.sub z 0 (O.ln z)) (O.sub u 0 (O.ln u)) (O.sub e 0 (O.ln e)) c (O.sub r 0 (O.ln r))) c) (O.sub y 0 (O.ln y))) (O.sub w 0 (O.ln w)) (O.sub x 0 (O.ln x)) p),(F.ktE (F.ccB (O.sub v 0 (O.ln v)) (O.sub w 0 (O.ln w)) (O.sub x 0 (O.ln x)) (F.kqN (F.ccB (O.sub z 0 (O.ln z)) (O.sub u 0 (O.ln u)) (O.sub e 0 (O.ln e)) c (O.sub r 0 (O.ln r))) c) (O.sub y 0 (O.ln y))) (O.sub x 0 (O.ln x)) p),(O.sub y 0 (O.ln y))) ?_ ?_ ?_;focus (cbv;done))
 all_goals((try subst hos);subst hO hr hF;(try simp only[nc]at*);(try simp only[ai,SS,sa,az]at*);(try have hT:tkB (zlI a2) a5 n=true:=(by assumption));(try have at_:=GB hT);(try rw[ht]at at_);(try simp only[show tkA (zlI a2) a5 n=t from ht]at*);(try obtain rfl:=i3);(try obtain rfl:=i4);(try obtain rfl:=i5);(try obtain rfl:=p3);(try have cc:=afc hk i2 c0 c1 i0 (by omega));(try have wc:=NQ hp.r0 i2);(try have e1:bO .add Za t i=t+i:=bF (by omega));(try have e2:bO .add Za i 1=i+1:=bF (by omega));(try have e3:bO .add Za p 1=p+1:=bF (by omega));(try simp only[e1]at*);(try simp only[e2]at*);(try simp only[e3]at*);(try simp only[cc]at*);(try have kq:=agw (c:=a3+i));(try simp only[kq]at*);(try have c2:=afb hk p2.m (c:=a3+i+1) (by omega) (by omega));(try have kk:=ac0 (cs:=v) (us:=w) (es:=x) (p:=p) c2);(try have dc:=IE p2))
 all_goals first
  | (show(_:List DV)=_
     first
      |(have q:=P9 (a0:=a0) (a1:=a1) (a3:=a3) (a4:=a4) (by assumption:tkB (zlI a2) a5 n=false);first|(rw[q.2.2.2.2.2.1,q.2.2.2.2.2.2];done)|(rw[q.2.2.2.2.2.1,q.2.2.2.2.2.2];exact rfl))
      |(have q:=NM ht hT i2 i0 (by omega) (by assumption) p2 (by omega) (by omega);first|(rw[q.2.2.2.2.2.1,q.2.2.2.2.2.2];done)|(rw[q.2.2.2.2.2.1,q.2.2.2.2.2.2];exact rfl))
      |(have q:=NO ht hT i2 i0 (by omega) (by omega);first|(rw[q.2.2.2.2.2.1,q.2.2.2.2.2.2];done)|(rw[q.2.2.2.2.2.1,q.2.2.2.2.2.2];exact rfl))
      |done)
  | (show(_:List H)=_
     first
      |(have q:=P9 (a0:=a0) (a1:=a1) (a3:=a3) (a4:=a4) (by assumption:tkB (zlI a2) a5 n=false);first|(rw[q.1,q.2.1,q.2.2.1,q.2.2.2.1,q.2.2.2.2.1];done)|(rw[q.1,q.2.1,q.2.2.1,q.2.2.2.1,q.2.2.2.2.1];exact rfl))
      |(have q:=NM ht hT i2 i0 (by omega) (by assumption) p2 (by omega) (by omega);first|(rw[q.1,q.2.1,q.2.2.1,q.2.2.2.1,q.2.2.2.2.1];done)|(rw[q.1,q.2.1,q.2.2.1,q.2.2.2.1,q.2.2.2.2.1];exact rfl))
      |(have q:=NO ht hT i2 i0 (by omega) (by omega);first|(rw[q.1,q.2.1,q.2.2.1,q.2.2.2.1,q.2.2.2.2.1];done)|(rw[q.1,q.2.1,q.2.2.1,q.2.2.2.1,q.2.2.2.2.1];exact rfl))
      |done)
  |omega
  |exact fU
  |exact⟨by unfold zlI;omega,by unfold zlI;omega,hp.r5,by omega,n0,n1⟩
  |exact⟨hp.r0,i2.ru,i2.re,hp.r4,by omega,by omega,by omega,by omega⟩
  |exact⟨p2.rc,p2.ru,p2.re,hp.r4,by omega,by omega,by omega,by omega⟩
  |exact ahs i2 i0 (by assumption)
  |exact ahr hp.r0 i2 (by assumption)
  |exact JD km hp.r1 hp.r2
  |(rw[kk.1,kk.2.1,kk.2.2.1];exact Hd p2 p0)
  |(show aP _ _=true;kernel_rfl)
  |exact⟨Zf,Zf⟩
  |exact Zf
  |done
abbrev Zy4:cZ:={
 Φ:=qp
 F0:=F0
 ot:=fun F f=>match f with|297=>some (av F)|_=>none
 ho:=(by
  intro f mk h;dsimp only at h;split at h<;>cases h
  exact cE)}
def iW:EP:=fun F=>fun
 |[.mp hl_,.agg [.v (.int Za p),.v (.int Za k),.v (.int Za b)]]=>hM hl_ fun a0 a1 a2 a3 a4 a5 a6 a7 a8 a9 aA aB aC aD aE aF aG aH aI aJ aK aL aM aN=>(fun _=>Rw [tI,tI,tI] a6/\a6.length<=1073741824,[(NY a0 a1 a2 a3 a4 a5 (F.isL a6 p k b) a7 a8 a9 aA aB aC aD aE aF aG aH aI aJ aK aL aM aN)],[.j (F.isI a6 p)])
 |_=>none
theorem tx:ep 204 iW:=by
 intro _ _ _ _ h hp;dsimp only[iW,F0,hM]at h;split at h;rotate_left;cases h;split at h<;>cases h
 rename_i p k b _ a0 a1 a2 a3 a4 a5 a6 a7 a8 a9 aA aB aC aD aE aF aG aH aI aJ aK aL aM aN;obtain⟨h6,l6⟩:=hp;refine pb Zy4 Tryz.func204 ?_
 intro O r os F hO hr hos hF;cbv
 repeat' first|apply Zb|(apply bG<;>intro hb<;>cbv)|(refine⟨[0,3,5],[0,3],Int,fun i=>[.reg 5 (.j i)],fun i=>0<=i/\i<=((a6.length:Nat):Int)/\upto (bT (DX a6 0 p)) i,fun i=>(a6.length)-i.toNat,⟨0,?_,?_⟩,?_⟩;rotate_left;(focus (cbv;done));intro i hi;replace hi:0<=i/\i<=((a6.length:Nat):Int)/\upto (bT (DX a6 0 p)) i:=hi;obtain⟨i0,i1,i2⟩:=hi;cbv)|(refine ag (O.ar .add Za i 1) ?_ ?_ ?_;focus (cbv;done))
 all_goals((try subst hos);subst hO hr hF;(try simp only[nc]at*);(try simp only[ai,SS,sa,az]at*);(try rw[cQ (by omega) (by omega)]);(try simp only[iJ (l:=a6) (sz:=3) (j:=0) i0,iJ (l:=a6) (sz:=3) (j:=1) i0,iJ (l:=a6) (sz:=3) (j:=2) i0]at*))
 all_goals first
  | (show(_:List DV)=_
     first
      |exact cv (wD i2 i0 (by omega) (by omega))
      |exact cv (qW i2 (by omega) (by omega))
      |done)
  | (show(_:List H)=_
     first
      |(have z:=wD (j:=0) (x:=p) i2 i0 (by omega) (by omega);subst z;exact rfl)
      |(have z:=qW (j:=0) (x:=p) i2 (by omega) (by omega);subst z;exact rfl)
      |done)
  |omega
  |exact fU
  |exact bB
  |exact JX i2 (by omega)
  |exact FK h6 i0 (by omega) (by decide)
  |exact⟨i0,by omega,l6,Rw.scal (fs:=[tI,tI,tI]) h6 rfl,by simp[bJ,gX,scal],rfl⟩
  |(show aP _ _=true;kernel_rfl)
  |exact⟨Zf,Zf⟩
  |exact Zf
  |done
abbrev Zy5:cZ:=eK (fun F f=>match f with|290=>bV F|291=>dr F|289=>cX F|292=>dY F|293=>dt F|294=>cR F|333=>bV F|343=>dr F|342=>cX F|344=>dY F|345=>dt F|346=>cR F|_=>fun _=>none) (by
 intro f;dsimp only;split;exact fy;exact pQ;exact oE;exact sr;exact pR;exact ku;exact iO;exact pZ;exact oI;exact sx;exact qa;exact pY;exact db)
def iT:EP:=fun F=>fun
 |[.mp hl_,.one (.v (.int Za i))]=>hM hl_ fun a0 a1 a2 a3 a4 a5 a6 a7 a8 a9 aA aB aC aD aE aF aG aH aI aJ aK aL aM aN=>(fun _=>si a0 a1 a2 a4 a5 a6 a7 a8 a9 aA aB aD aL/\0<=i/\i<a6.length/\spOk (ah a6 i 0) (ah a6 i 1) (ah a6 i 2)=true/\inR aE 0 1073741823=true,[(NY a0 a1 a2 a3 a4 a5 (F.xcS a2 a6 aE i) a7 a8 a9 aA aB aC aD (F.xcD a2 a6 aE i) aF aG aH aI aJ aK aL aM aN)],[.j (F.xcA a2 a6 aE i),.k (F.xcB a2 a6 i)])
 |_=>none
theorem tu:ep 202 iT:=by
 intro _ _ _ _ h hp;dsimp only[iT,F0,hM]at h;split at h;rotate_left;cases h;split at h<;>cases h
 rename_i i _ a0 a1 a2 a3 a4 a5 a6 a7 a8 a9 aA aB aC aD aE aF aG aH aI aJ aK aL aM aN;obtain⟨hp,i0,i1,hs,hd⟩:=hp;have h6:=hp.r6;have c6:=hp.c6;have c2:=hp.c2;have l2:=aw (es:=a2);have l6:=aw (es:=a6);have g0:=iJ (l:=a6) (sz:=3) (j:=0) i0;have g1:=iJ (l:=a6) (sz:=3) (j:=1) i0;have g2:=iJ (l:=a6) (sz:=3) (j:=2) i0;have gf:frL (slN (ah a6 i 1)) (ubB a2 a6 i)=qo a2 a6 i:=rfl;refine pb Zy5 Tryz.func202 ?_
 exact afg
def mF:EP:=fun F=>fun
 |[.mp hl_,.one (.v (.int Za i))]=>hM hl_ fun a0 a1 a2 a3 a4 a5 a6 a7 a8 a9 aA aB aC aD aE aF aG aH aI aJ aK aL aM aN=>(fun _=>si a0 a1 a2 a4 a5 a6 a7 a8 a9 aA aB aD aL/\0<=i/\i<a6.length/\spOk (ah a6 i 0) (ah a6 i 1) (ah a6 i 2)=true/\inR aE 0 1073741823=true,[(NY a0 a1 a2 a3 a4 a5 (F.xcS a2 a6 aE i) a7 a8 a9 aA aB aC aD (F.xcD a2 a6 aE i) aF aG aH aI aJ aK aL aM aN)],[.j (F.xcA a2 a6 aE i)])
 |_=>none
theorem zX:ep 284 mF:=by
 intro _ _ _ _ h hp;dsimp only[mF,F0,hM]at h;split at h;rotate_left;cases h;split at h<;>cases h
 rename_i i _ a0 a1 a2 a3 a4 a5 a6 a7 a8 a9 aA aB aC aD aE aF aG aH aI aJ aK aL aM aN;obtain⟨hp,i0,i1,hs,hd⟩:=hp;have h6:=hp.r6;have c6:=hp.c6;have c2:=hp.c2;have l2:=aw (es:=a2);have l6:=aw (es:=a6);have g0:=iJ (l:=a6) (sz:=3) (j:=0) i0;have g1:=iJ (l:=a6) (sz:=3) (j:=1) i0;have g2:=iJ (l:=a6) (sz:=3) (j:=2) i0;have gf:frL (slN (ah a6 i 1)) (ubB a2 a6 i)=qo a2 a6 i:=rfl;refine pb Zy5 Tryz.func284 ?_
 exact afg
def mG:EP:=fun F=>fun
 |[.mp hl_,.one (.v (.int Za k))]=>hM hl_ fun a0 a1 a2 a3 a4 a5 a6 a7 a8 a9 aA aB aC aD aE aF aG aH aI aJ aK aL aM aN=>(fun _=>si a0 a1 a2 a4 a5 a6 a7 a8 a9 aA aB aD aL/\kerOk a0 a1 a2 a3 a4=true/\0<=a3/\a3<=90000/\NS k,[(NY (F.xpC a0 a1 a2 a3 a4 a5 1) (F.xpU a0 a1 a2 a3 a4 a5 1) (F.xpE a0 a1 a2 a3 a4 a5 1) (F.xpK a1 a2 a3 a4 a5 1) a4 (F.xpF a1 a2 a3 a4 a5 1) (F.xsL a1 a2 a3 a4 a5 a6 k) a7 a8 a9 aA aB aC aD aE aF aG aH aI aJ aK aL aM aN)],[.j (F.xsI a1 a2 a3 a4 a5 a6 k)])
 |_=>none
theorem zY:ep 285 mG:=by
 intro _ _ _ _ h hp;dsimp only[mG,F0,hM]at h;split at h;rotate_left;cases h;split at h<;>cases h
 rename_i k _ a0 a1 a2 a3 a4 a5 a6 a7 a8 a9 aA aB aC aD aE aF aG aH aI aJ aK aL aM aN;obtain⟨hp,hk,c0,c1,n0,n1⟩:=hp;have km:=(kf hk).1;have re:=(kf hk).2.2.2;have q0:=hp.c0;have q1:=hp.c1;have q2:=hp.c2;have q4:=hp.c4;have q5:=hp.c5;have q6:=hp.c6;have l2:=aw (es:=a2);have l5:=aw (es:=a5);have l6:=aw (es:=a6);have h6:=hp.r6;obtain⟨t,ht⟩:∃ t,qq a2 a5 1=t:=⟨_,rfl⟩;refine pb Zy3 Tryz.func285 ?_
 intro O r os F hO hr hos hF;cbv
 repeat' first|apply Zb|(apply bG<;>intro hb<;>cbv)|(refine⟨[0,1,6,8],[0],Int,fun i=>[.reg 8 (.j i)],fun i=>0<=i/\i<=((a6.length:Nat):Int)/\upto (bT (DX a6 0 t)) i,fun i=>(a6.length)-i.toNat,⟨0,?_,?_⟩,?_⟩;rotate_left;(focus (cbv;done));intro i hi;replace hi:0<=i/\i<=((a6.length:Nat):Int)/\upto (bT (DX a6 0 t)) i:=hi;obtain⟨i0,i1,i2⟩:=hi;cbv)|(refine ag (O.ar .add Za i 1) ?_ ?_ ?_;focus (cbv;done))
 all_goals((try subst hos);subst hO hr hF;(try simp only[nc]at*);(try simp only[ai,SS,sa,az]at*);(try rw[cQ (by omega) (by omega)]);(try have hT:tkB (zlI a2) a5 1=true:=(by assumption));(try have at_:=GB hT);(try rw[ht]at at_);(try simp only[show tkA (zlI a2) a5 1=t from ht]at*);(try simp only[iJ (l:=a6) (sz:=3) (j:=0) i0,iJ (l:=a6) (sz:=3) (j:=1) i0,iJ (l:=a6) (sz:=3) (j:=2) i0]at*);(try simp only[show c1N a3=a3+1 from rfl]at*);(try have xf:=afd (a6:=a6) (k:=k) (P9 (a0:=a0) (a1:=a1) (a3:=a3) (a4:=a4) (by assumption:tkB (zlI a2) a5 1=false)));(try have xn:=afd (a6:=a6) (k:=k) (ae6 km hp.r1 hp.r2 hT (by rw[ht];assumption)));(try have xt:=ahu (a6:=a6) (k:=k) ht (ae7 km hp.r1 hp.r2 hT (by rw[ht];assumption))))
 all_goals first
  | (show(_:List DV)=_
     first
      |(first|(rw[xf.1];done)|(rw[xf.1];exact rfl))
      |(first|(rw[xn.1];done)|(rw[xn.1];exact rfl))
      |exact cv ((wD i2 i0 (by omega) (by omega)).trans xt.1.symm)
      |exact cv ((qW i2 (by omega) (by omega)).trans xt.1.symm)
      |done)
  | (show(_:List H)=_
     first
      |(first|(rw[xf.2.1,xf.2.2.1,xf.2.2.2.1,xf.2.2.2.2.1,xf.2.2.2.2.2.1,xf.2.2.2.2.2.2];done)|(rw[xf.2.1,xf.2.2.1,xf.2.2.2.1,xf.2.2.2.2.1,xf.2.2.2.2.2.1,xf.2.2.2.2.2.2];exact rfl))
      |(have q:=Hy (by assumption:kmB a1 a2 a3 a4 t=false);first|(rw[xn.2.1,xn.2.2.1,xn.2.2.2.1,xn.2.2.2.2.1,xn.2.2.2.2.2.1,xn.2.2.2.2.2.2,q.1,q.2];done)|(rw[xn.2.1,xn.2.2.1,xn.2.2.2.1,xn.2.2.2.2.1,xn.2.2.2.2.2.1,xn.2.2.2.2.2.2,q.1,q.2];exact rfl))
      |(have z:=wD (j:=0) (x:=t) i2 i0 (by omega) (by omega);have e1:=Au (es:=a6) (x:=[[.i t,.i k,.i 0]]) i0 (by omega);have e2:isL a6 t k 0=inL a6 i [[.i t,.i k,.i 0]]:=(by unfold isL;rw[<-z]);first|(rw[e1,xt.2.1,e2,xt.2.2.1,xt.2.2.2.1,xt.2.2.2.2.1,xt.2.2.2.2.2.1,xt.2.2.2.2.2.2];done)|(rw[e1,xt.2.1,e2,xt.2.2.1,xt.2.2.2.1,xt.2.2.2.2.1,xt.2.2.2.2.2.1,xt.2.2.2.2.2.2];exact rfl))
      |(have z:=qW (j:=0) (x:=t) i2 (by omega) (by omega);have e1:=Au (es:=a6) (x:=[[.i t,.i k,.i 0]]) i0 (by omega);have e2:isL a6 t k 0=inL a6 i [[.i t,.i k,.i 0]]:=(by unfold isL;rw[<-z]);first|(rw[e1,xt.2.1,e2,xt.2.2.1,xt.2.2.2.1,xt.2.2.2.2.1,xt.2.2.2.2.2.1,xt.2.2.2.2.2.2];done)|(rw[e1,xt.2.1,e2,xt.2.2.1,xt.2.2.2.1,xt.2.2.2.2.1,xt.2.2.2.2.2.1,xt.2.2.2.2.2.2];exact rfl))
      |done)
  |omega
  |exact fU
  |exact bB
  |exact JX i2 (by omega)
  |exact FK h6 i0 (by omega) (by decide)
  |exact⟨by unfold zlI;omega,by unfold zlI;omega,hp.r5,by omega,by omega,by omega⟩
  |exact⟨hp.r0,hp.r1,hp.r2,hp.r4,km,by omega,by omega,by omega⟩
  |exact Rw.scal (fs:=[tI,tI,tI]) h6 rfl
  |exact Rw.scal (fs:=[tI,tI,tI]) (wN h6).1 rfl
  |(have sl:=fun(a b:Nat)=>(wN (a:=a) (b:=b) h6).2;refine⟨?_,?_⟩<;>(simp only[List.length_nil,List.length_append,List.length_cons];have s1:=sl (Int.toNat 0) (EZ i 0);have s2:=sl i.toNat (EZ (a6.length:Int) i);omega))
  |(show aP _ _=true;kernel_rfl)
  |exact⟨Zf,Zf⟩
  |exact Zf
  |done
abbrev Zp0:cZ:=eK (fun F f=>match f with|290=>bV F|291=>dr F|289=>cX F|292=>dY F|293=>dt F|294=>cR F|333=>bV F|343=>dr F|342=>cX F|344=>dY F|345=>dt F|346=>cR F|_=>fun _=>none) (by
 intro f;dsimp only;split;exact fy;exact pQ;exact oE;exact sr;exact pR;exact ku;exact iO;exact pZ;exact oI;exact sx;exact qa;exact pY;exact db)
def hY:EC:=fun F=>fun
 |[.ptr hl_,.one (.v (.int Za i))]=>hL hl_ fun a0 a1 a2 a3 a4 a5 a6 a7 a8 a9 aA aB aC aD aE aF aG aH aI aJ aK aL aM aN=>(fun _=>si a0 a1 a2 a4 a5 a6 a7 a8 a9 aA aB aD aL/\0<=i/\i<a6.length/\spOk (ah a6 i 0) (ah a6 i 1) (ah a6 i 2)=true/\inR aE 0 1073741823=true/\xcB a2 a6 i=false,[.j (-1),.k false])
 |_=>none
theorem sk:ec 202 hY:=by
 intro _ _ _ h hp;dsimp only[hY,F0,hL]at h;split at h;rotate_left;cases h;split at h<;>cases h
 rename_i i _ a0 a1 a2 a3 a4 a5 a6 a7 a8 a9 aA aB aC aD aE aF aG aH aI aJ aK aL aM aN;obtain⟨hp,i0,i1,hs,hd,hx⟩:=hp;have hx:=of_decide_eq_false hx;have h6:=hp.r6;have c6:=hp.c6;have c2:=hp.c2;have l2:=aw (es:=a2);have l6:=aw (es:=a6);have g1:=iJ (l:=a6) (sz:=3) (j:=1) i0;have gf:frL (slN (ah a6 i 1)) (ubB a2 a6 i)=qo a2 a6 i:=rfl;refine cb Zp0 Tryz.func202 ?_
 exact afq
def jV:EC:=fun F=>fun
 |[.ptr hl_,.one (.v (.int Za i))]=>hL hl_ fun a0 a1 a2 a3 a4 a5 a6 a7 a8 a9 aA aB aC aD aE aF aG aH aI aJ aK aL aM aN=>(fun _=>si a0 a1 a2 a4 a5 a6 a7 a8 a9 aA aB aD aL/\0<=i/\i<a6.length/\spOk (ah a6 i 0) (ah a6 i 1) (ah a6 i 2)=true/\inR aE 0 1073741823=true/\xcB a2 a6 i=false,[.j (-1)])
 |_=>none
theorem vD:ec 284 jV:=by
 intro _ _ _ h hp;dsimp only[jV,F0,hL]at h;split at h;rotate_left;cases h;split at h<;>cases h
 rename_i i _ a0 a1 a2 a3 a4 a5 a6 a7 a8 a9 aA aB aC aD aE aF aG aH aI aJ aK aL aM aN;obtain⟨hp,i0,i1,hs,hd,hx⟩:=hp;have hx:=of_decide_eq_false hx;have h6:=hp.r6;have c6:=hp.c6;have c2:=hp.c2;have l2:=aw (es:=a2);have l6:=aw (es:=a6);have g1:=iJ (l:=a6) (sz:=3) (j:=1) i0;have gf:frL (slN (ah a6 i 1)) (ubB a2 a6 i)=qo a2 a6 i:=rfl;refine cb Zp0 Tryz.func284 ?_
 exact afq
abbrev Zp1:cZ:={
 Φ:=qp
 F0:=F0
 ct:=fun F f=>match f with|201=>d9 F|139=>qN F|202=>hY F|283=>d9 F|215=>od F|284=>jV F|_=>fun _=>none
 hc:=(by
  intro f;dsimp only;split;exact uT;exact Fc;exact sk;exact vu;exact BW;exact vD;exact db)
 pt:=fun F f=>match f with|202=>some (iT F)|203=>some (gU F)|204=>some (iW F)|284=>some (mF F)|285=>some (mG F)|_=>none
 hp:=(by
  intro f mk h;dsimp only at h;split at h<;>cases h
  exact tu;exact oG;exact tx;exact zX;exact zY)}
def jL:EP:=fun F=>fun
 |[.mp hl_,.one (.v (.int Za t)),.one (.v (.int Za k))]=>hM hl_ fun a0 a1 a2 a3 a4 a5 a6 a7 a8 a9 aA aB aC aD aE aF aG aH aI aJ aK aL aM aN=>(fun _=>si a0 a1 a2 a4 a5 a6 a7 a8 a9 aA aB aD aL/\hpI a0 a1 a2 a3 a4 a5 a6 a7 a8 a9 aA aB aC aD aE aF aG aH aI aJ aK aL aM aN=true/\a3<=90000/\inR t 0 (a9.length-1)=true/\inR k 0 3=true/\am a6<=1000000000/\am a9<=300000000,[(NY (F.xmC a0 a1 a2 a3 a4 a5 a6 a9 aE aI aJ aK t k) (F.xmU a0 a1 a2 a3 a4 a5 a6 a9 aE aI aJ aK t k) (F.xmE a0 a1 a2 a3 a4 a5 a6 a9 aE aI aJ aK t k) (F.xmK a0 a1 a2 a3 a4 a5 a6 a9 aE aI aJ aK t k) a4 (F.xmF a0 a1 a2 a3 a4 a5 a6 a9 aE aI aJ aK t k) (F.xmS a0 a1 a2 a3 a4 a5 a6 a9 aE aI aJ aK t k) a7 a8 (F.xmX a0 a1 a2 a3 a4 a5 a6 a9 aE aI aJ aK t k) aA aB aC aD (F.xmD a0 a1 a2 a3 a4 a5 a6 a9 aE aI aJ aK t k) aF aG aH aI aJ aK aL aM aN)],[.j (F.xmA a0 a1 a2 a3 a4 a5 a6 a9 aE aI aJ aK t k),.k (F.xmB a0 a1 a2 a3 a4 a5 a6 a9 aE aI aJ aK t k)])
 |_=>none
theorem ve:ep 90 jL:=by
 intro _ _ _ _ h hp;dsimp only[jL,F0,hM]at h;split at h;rotate_left;cases h;split at h<;>cases h
 rename_i t k _ a0 a1 a2 a3 a4 a5 a6 a7 a8 a9 aA aB aC aD aE aF aG aH aI aJ aK aL aM aN;obtain⟨hp,hk,c1,ht,kk,c6,c9⟩:=hp;have HH:=wC hk;have km:=(kf HH.k).1;have c0:=(kf HH.k).2.1;have tr:=bA.1 ht;have l6:=aw (es:=a6);have l9:=aw (es:=a9);have h6:=hp.r6;have kr:=bA.1 kk;refine MM Zp1 (T:={tab with alL:=[(9,())]}) uC mixed 86 _ [3,4] [.tmp 6,.tmp 7] Tryz.func90 rfl rfl rfl rfl rfl rfl rfl ?_;intro O r os F hO hr hos hF;cbv
 repeat' first|apply Zb|(apply bG<;>intro hb<;>cbv)|(refine⟨[0,2,42,43,44],[0],Int,fun i=>[.reg 44 (.j i)],fun i=>0<=i/\i<=(a6.length:Int)/\upto (bT (EW a2 a6 aI aJ aK k)) i,fun i=>(a6.length-i).toNat,⟨0,?_,?_⟩,?_⟩;rotate_left;(focus (cbv;done));intro i hi;replace hi:0<=i/\i<=(a6.length:Int)/\upto (bT (EW a2 a6 aI aJ aK k)) i:=hi;obtain⟨i0,i1,i2⟩:=hi;cbv)|((refine adM (xcB a2 a6 i) (fun hb=>?_) (fun hb=>?_)))|(refine ag (O.ar .add Za i 1) ?_ ?_ ?_;focus (cbv;done))
 all_goals exact zq6
def lr:EP:=fun F=>fun
 |[.mp hl_,.one (.v (.int Za t)),.one (.v (.int Za k))]=>hM hl_ fun a0 a1 a2 a3 a4 a5 a6 a7 a8 a9 aA aB aC aD aE aF aG aH aI aJ aK aL aM aN=>(fun _=>si a0 a1 a2 a4 a5 a6 a7 a8 a9 aA aB aD aL/\hpI a0 a1 a2 a3 a4 a5 a6 a7 a8 a9 aA aB aC aD aE aF aG aH aI aJ aK aL aM aN=true/\a3<=90000/\inR t 0 (a9.length-1)=true/\inR k 0 3=true/\am a6<=1000000000/\am a9<=300000000,[(NY (F.xmC a0 a1 a2 a3 a4 a5 a6 a9 aE aI aJ aK t k) (F.xmU a0 a1 a2 a3 a4 a5 a6 a9 aE aI aJ aK t k) (F.xmE a0 a1 a2 a3 a4 a5 a6 a9 aE aI aJ aK t k) (F.xmK a0 a1 a2 a3 a4 a5 a6 a9 aE aI aJ aK t k) a4 (F.xmF a0 a1 a2 a3 a4 a5 a6 a9 aE aI aJ aK t k) (F.xmS a0 a1 a2 a3 a4 a5 a6 a9 aE aI aJ aK t k) a7 a8 (F.xmX a0 a1 a2 a3 a4 a5 a6 a9 aE aI aJ aK t k) aA aB aC aD (F.xmD a0 a1 a2 a3 a4 a5 a6 a9 aE aI aJ aK t k) aF aG aH aI aJ aK aL aM aN)],[.j (F.xmA a0 a1 a2 a3 a4 a5 a6 a9 aE aI aJ aK t k)])
 |_=>none
theorem ya:ep 199 lr:=by
 intro _ _ _ _ h hp;dsimp only[lr,F0,hM]at h;split at h;rotate_left;cases h;split at h<;>cases h
 rename_i t k _ a0 a1 a2 a3 a4 a5 a6 a7 a8 a9 aA aB aC aD aE aF aG aH aI aJ aK aL aM aN;obtain⟨hp,hk,c1,ht,kk,c6,c9⟩:=hp;have HH:=wC hk;have km:=(kf HH.k).1;have c0:=(kf HH.k).2.1;have tr:=bA.1 ht;have l6:=aw (es:=a6);have l9:=aw (es:=a9);have h6:=hp.r6;have kr:=bA.1 kk;refine MM Zp1 (T:={tab with alL:=[(9,())]}) uC mixed 80 _ [3] [.tmp 6] Tryz.func199 rfl rfl rfl rfl rfl rfl rfl ?_;intro O r os F hO hr hos hF;cbv
 repeat' first|apply Zb|(apply bG<;>intro hb<;>cbv)|(refine⟨[0,2,10],[0],Int,fun i=>[.reg 10 (.j i)],fun i=>0<=i/\i<=(a6.length:Int)/\upto (bT (EW a2 a6 aI aJ aK k)) i,fun i=>(a6.length-i).toNat,⟨0,?_,?_⟩,?_⟩;rotate_left;(focus (cbv;done));intro i hi;replace hi:0<=i/\i<=(a6.length:Int)/\upto (bT (EW a2 a6 aI aJ aK k)) i:=hi;obtain⟨i0,i1,i2⟩:=hi;cbv)|((refine adM (xcB a2 a6 i) (fun hb=>?_) (fun hb=>?_)))|(refine ag (O.ar .add Za i 1) ?_ ?_ ?_;focus (cbv;done))
 all_goals exact zq6
end Go.V