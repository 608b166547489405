/- Contracts. -/
import Derived.Test.YtcbcfelbafccpaaGreatXM6
set_option linter.all false
open Go
open And renaming intro->Zc
open IntKind renaming i64->Za
open True renaming intro->Zd
namespace Go.V
open Go Go.Proofs
set_option maxRecDepth 1000000
set_option maxHeartbeats 8000000
abbrev Zy3:dq:=dP (fun F f=>match f with|80=>gQ F|111=>ir F|112=>jU F|78=>iL F|_=>fun _=>none) (by
 intro f;dsimp only;split;exact nm;exact rG;exact uG;exact oY;exact dy)
def fm:EP:=fun F=>fun
 |[.mp hl_,.one (.v (.int Za n))]=>hM hl_ fun a0 a1 a2 a3 a4 a5 a6 a7 a8 a9 aA aB aC aD aE aF aG aH aI aJ aK aL aM aN=>(fun _=>tz a0 a1 a2 a4 a5 a6 a7 a8 a9 aA aB aD aL/\kerOk a0 a1 a2 a3 a4=true/\0<=a3/\a3<=90000/\Dl n,[(Qw (F.xpC a0 a1 a2 a3 a4 a5 n) (F.xpU a0 a1 a2 a3 a4 a5 n) (F.xpE a0 a1 a2 a3 a4 a5 n) (F.xpK a1 a2 a3 a4 a5 n) a4 (F.xpF a1 a2 a3 a4 a5 n) a6 a7 a8 a9 aA aB aC aD aE aF aG aH aI aJ aK aL aM aN)],[.j (F.xpA a1 a2 a3 a4 a5 n),.k (F.xpB a1 a2 a3 a4 a5 n)])
 |_=>none
def lm:ep 66 fm:=by
 intro _ _ _ _ h hp;dsimp only[fm,F0,hM]at h;split at h;rotate_left;cases h;split at h<;>cases h
 rename_i n _ a0 a1 a2 a3 a4 a5 a6 a7 a8 a9 aA aB aC aD aE aF aG aH aI aJ aK aL aM aN;obtain⟨hp,hk,c0,c1,n0,n1⟩:=hp;have km:=(lA hk).1;have re:=(lA hk).2.2.2;have q0:=hp.c0;have q1:=hp.c1;have q2:=hp.c2;have q4:=hp.c4;have q5:=hp.c5;have l2:=bj (es:=a2);have l5:=bj (es:=a5);obtain⟨t,ht⟩:∃ t,wz a2 a5 n=t:=⟨_,rfl⟩;refine pb Zy3 Tryz.func66 ?_
 intro O r os F hO hr hos hF;cbv
 repeat' first|apply Zc|(apply cN<;>intro hb<;>cbv)|(refine⟨[0,1,6,7,9,10],[0,9,24],Int×af×af×Int×af×af,fun s_=>match s_ with|(i,u,e,c,z,r)=>[.reg 10 (.j i),.leaf 9 0 ⟨0,0,none,.own (.s 1 z)⟩,.leaf 9 1 ⟨0,0,none,.own (.s 1 u)⟩,.leaf 9 2 ⟨0,0,none,.own (.s 2 e)⟩,.leaf 9 3 ⟨0,0,none,.own (.i c)⟩,.leaf 9 4 ⟨0,0,none,.own (.s 1 r)⟩],fun s_=>match s_ with|(i,u,e,c,z,r)=>0<=i/\i<=n/\zZ a0 a1 a2 a3 a4 t i u e/\c=a3+i/\z=a0/\r=a4,fun s_=>match s_ with|(i,u,e,c,z,r)=>(n-i).toNat,⟨(0,a1,a2,a3,a0,a4),?_,?_⟩,?_⟩;rotate_left;(focus (cbv;done));intro s_ hi;obtain⟨i,u,e,c,z,r⟩:=s_;replace hi:0<=i/\i<=n/\zZ a0 a1 a2 a3 a4 t i u e/\c=a3+i/\z=a0/\r=a4:=hi;obtain⟨i0,i1,i2,i3,i4,i5⟩:=hi;cbv)|(refine⟨[0,7,9,10,13],[0,9],Int×af×af×af×af,fun s_=>match s_ with|(p,v,w,x,y)=>[.reg 13 (.j p),.leaf 9 0 ⟨0,0,none,.own (.s 1 v)⟩,.leaf 9 1 ⟨0,0,none,.own (.s 1 w)⟩,.leaf 9 2 ⟨0,0,none,.own (.s 2 x)⟩,.leaf 9 4 ⟨0,0,none,.own (.s 1 y)⟩],fun s_=>match s_ with|(p,v,w,x,y)=>t<=p/\p<=t+i/\FA a0 u e t p v w x/\y=a4,fun s_=>match s_ with|(p,v,w,x,y)=>(t+i-p).toNat,⟨((F.tkA (F.zlI (O.sub a2 0 (O.ln a2))) (O.sub a5 0 (O.ln a5)) n),(O.sub z 0 (O.ln z)),(F.kwU (F.ccB (O.sub z 0 (O.ln z)) (O.sub u 0 (O.ln u)) (O.sub e 0 (O.ln e)) c (O.sub r 0 (O.ln r))) (O.sub u 0 (O.ln u)) (O.sub e 0 (O.ln e)) c (O.sub r 0 (O.ln r)) (O.ar .add Za (F.tkA (F.zlI (O.sub a2 0 (O.ln a2))) (O.sub a5 0 (O.ln a5)) n) i)),(F.kwE (F.ccB (O.sub z 0 (O.ln z)) (O.sub u 0 (O.ln u)) (O.sub e 0 (O.ln e)) c (O.sub r 0 (O.ln r))) (O.sub u 0 (O.ln u)) (O.sub e 0 (O.ln e)) c (O.sub r 0 (O.ln r)) (O.ar .add Za (F.tkA (F.zlI (O.sub a2 0 (O.ln a2))) (O.sub a5 0 (O.ln a5)) n) i)),(O.sub r 0 (O.ln r))),?_,?_⟩,?_⟩;rotate_left;(focus (cbv;done));intro s_ hp;obtain⟨p,v,w,x,y⟩:=s_;replace hp:t<=p/\p<=t+i/\FA a0 u e t p v w x/\y=a4:=hp;obtain⟨p0,p1,p2,p3⟩:=hp;cbv)|(refine ai (O.ar .add Za i 1,(F.kwU (F.ccB (O.sub z 0 (O.ln z)) (O.sub u 0 (O.ln u)) (O.sub e 0 (O.ln e)) c (O.sub r 0 (O.ln r))) (O.sub u 0 (O.ln u)) (O.sub e 0 (O.ln e)) c (O.sub r 0 (O.ln r)) (O.ar .add Za (F.tkA (F.zlI (O.sub a2 0 (O.ln a2))) (O.sub a5 0 (O.ln a5)) n) i)),(F.kwE (F.ccB (O.sub z 0 (O.ln z)) (O.sub u 0 (O.ln u)) (O.sub e 0 (O.ln e)) c (O.sub r 0 (O.ln r))) (O.sub u 0 (O.ln u)) (O.sub e 0 (O.ln e)) c (O.sub r 0 (O.ln r)) (O.ar .add Za (F.tkA (F.zlI (O.sub a2 0 (O.ln a2))) (O.sub a5 0 (O.ln a5)) n) i)),(F.kqN (F.ccB (O.sub z 0 (O.ln z)) (O.sub u 0 (O.ln u)) (O.sub e 0 (O.ln e)) c (O.sub r 0 (O.ln r))) c),(O.sub z 0 (O.ln z)),(O.sub r 0 (O.ln r))) ?_ ?_ ?_;focus (cbv;done))|(refine ai (O.ar .add Za p 1,(F.ktC (F.ccB (O.sub v 0 (O.ln v)) (O.sub w 0 (O.ln w)) (O.sub x 0 (O.ln x)) (F.kqN (F.ccB (O.sub z 0 (O.ln z)) (O.sub u 0 (O.ln u)) (O.sub e 0 (O.ln e)) c (O.sub r 0 (O.ln r))) c) (O.sub y 0 (O.ln y))) (O.sub v 0 (O.ln v)) (O.sub x 0 (O.ln x)) p),(F.ktU (F.ccB (O.sub v 0 (O.ln v)) (O.sub w 0 (O.ln w)) (O.sub x 0 (O.ln x)) (F.kqN (F.ccB (O.sub z 0 (O.ln z)) (O.sub u 0 (O.ln u)) (O.sub e 0 (O.ln e)) c (O.sub r 0 (O.ln r))) c) (O.sub y 0 (O.ln y))) (O.sub w 0 (O.ln w)) (O.sub x 0 (O.ln x)) p),(F.ktE (F.ccB (O.sub v 0 (O.ln v)) (O.sub w 0 (O.ln w)) (O.sub x 0 (O.ln x)) (F.kqN (F.ccB (O.sub z 0 (O.ln z)) (O.sub u 0 (O.ln u)) (O.sub e 0 (O.ln e)) c (O.sub r 0 (O.ln r))) c) (O.sub y 0 (O.ln y))) (O.sub x 0 (O.ln x)) p),(O.sub y 0 (O.ln y))) ?_ ?_ ?_;focus (cbv;done))
 all_goals((try subst hos);subst hO hr hF;(try simp only[nc]at*);(try simp only[am,SS,sa,az]at*);(try have hT:tkB (zlI a2) a5 n=true:=Ud);(try have at_:=IE hT);(try rw[ht]at at_);(try simp only[show tkA (zlI a2) a5 n=t from ht]at*);(try obtain rfl:=i3);(try obtain rfl:=i4);(try obtain rfl:=i5);(try obtain rfl:=p3);(try have cc:=abv hk i2 c0 c1 i0 Uc);(try have wc:=P6 hp.r0 i2);(try have e1:bK .add Za t i=t+i:=cu Uc);(try have e2:bK .add Za i 1=i+1:=cu Uc);(try have e3:bK .add Za p 1=p+1:=cu Uc);(try simp only[e1]at*);(try simp only[e2]at*);(try simp only[e3]at*);(try simp only[cc]at*);(try have kq:=acH (c:=a3+i));(try simp only[kq]at*);(try have c2:=abu hk p2.m (c:=a3+i+1) Uc Uc);(try have kk:=Of (cs:=v) (us:=w) (es:=x) (p:=p) c2);(try have dc:=yi p2))
 all_goals first
  | (show(_:List DV)=_
     first
      |(have q:=abr (a0:=a0) (a1:=a1) (a3:=a3) (a4:=a4) (by assumption:tkB (zlI a2) a5 n=false);first|(rw[q.2.2.2.2.2.1,q.2.2.2.2.2.2];done)|(rw[q.2.2.2.2.2.1,q.2.2.2.2.2.2];exact rfl))
      |(have q:=My ht hT i2 i0 Uc Ud p2 Uc Uc;first|(rw[q.2.2.2.2.2.1,q.2.2.2.2.2.2];done)|(rw[q.2.2.2.2.2.1,q.2.2.2.2.2.2];exact rfl))
      |(have q:=MA ht hT i2 i0 Uc Uc;first|(rw[q.2.2.2.2.2.1,q.2.2.2.2.2.2];done)|(rw[q.2.2.2.2.2.1,q.2.2.2.2.2.2];exact rfl))
      |done)
  | (show(_:List H)=_
     first
      |(have q:=abr (a0:=a0) (a1:=a1) (a3:=a3) (a4:=a4) (by assumption:tkB (zlI a2) a5 n=false);first|(rw[q.1,q.2.1,q.2.2.1,q.2.2.2.1,q.2.2.2.2.1];done)|(rw[q.1,q.2.1,q.2.2.1,q.2.2.2.1,q.2.2.2.2.1];exact rfl))
      |(have q:=My ht hT i2 i0 Uc Ud p2 Uc Uc;first|(rw[q.1,q.2.1,q.2.2.1,q.2.2.2.1,q.2.2.2.2.1];done)|(rw[q.1,q.2.1,q.2.2.1,q.2.2.2.1,q.2.2.2.2.1];exact rfl))
      |(have q:=MA ht hT i2 i0 Uc Uc;first|(rw[q.1,q.2.1,q.2.2.1,q.2.2.2.1,q.2.2.2.2.1];done)|(rw[q.1,q.2.1,q.2.2.1,q.2.2.2.1,q.2.2.2.2.1];exact rfl))
      |done)
  |omega
  |exact ga
  |exact⟨by unfold zlI;omega,by unfold zlI;omega,hp.r5,Uc,n0,n1⟩
  |exact⟨hp.r0,i2.ru,i2.re,hp.r4,Uc,Uc,Uc,Uc⟩
  |exact⟨p2.rc,p2.ru,p2.re,hp.r4,Uc,Uc,Uc,Uc⟩
  |exact adU i2 i0 Ud
  |exact adT hp.r0 i2 Ud
  |exact abw km hp.r1 hp.r2
  |(rw[kk.1,kk.2.1,kk.2.2.1];exact B0 p2 p0)
  |(show ay _ _=true;kernel_rfl)
  |exact⟨Zd,Zd⟩
  |exact Zd
  |done
abbrev Zy4:dq:={
 Φ:=wC
 F0:=F0
 ot:=fun F f=>match f with|113=>some (ak F)|_=>none
 ho:=(by
  intro f mk h;dsimp only at h;split at h<;>cases h
  exact cD)}
def gO:EP:=fun F=>fun
 |[.mp hl_,.agg [.v (.int Za p),.v (.int Za k),.v (.int Za b)]]=>hM hl_ fun a0 a1 a2 a3 a4 a5 a6 a7 a8 a9 aA aB aC aD aE aF aG aH aI aJ aK aL aM aN=>(fun _=>Rw [tI,tI,tI] a6/\a6.length<=1073741824,[(Qw a0 a1 a2 a3 a4 a5 (F.isL a6 p k b) a7 a8 a9 aA aB aC aD aE aF aG aH aI aJ aK aL aM aN)],[.j (F.isI a6 p)])
 |_=>none
def p8:ep 67 gO:=by
 intro _ _ _ _ h hp;dsimp only[gO,F0,hM]at h;split at h;rotate_left;cases h;split at h<;>cases h
 rename_i p k b _ a0 a1 a2 a3 a4 a5 a6 a7 a8 a9 aA aB aC aD aE aF aG aH aI aJ aK aL aM aN;obtain⟨h6,l6⟩:=hp;refine pb Zy4 Tryz.func67 ?_
 intro O r os F hO hr hos hF;cbv
 repeat' first|apply Zc|(apply cN<;>intro hb<;>cbv)|(refine⟨[0,3,5],[0,3],Int,fun i=>[.reg 5 (.j i)],fun i=>0<=i/\i<=((a6.length:Nat):Int)/\upto (cI (E7 a6 0 p)) i,fun i=>(a6.length)-i.toNat,⟨0,?_,?_⟩,?_⟩;rotate_left;(focus (cbv;done));intro i hi;replace hi:0<=i/\i<=((a6.length:Nat):Int)/\upto (cI (E7 a6 0 p)) i:=hi;obtain⟨i0,i1,i2⟩:=hi;cbv)|(refine ai (O.ar .add Za i 1) ?_ ?_ ?_;focus (cbv;done))
 all_goals((try subst hos);subst hO hr hF;(try simp only[nc]at*);(try simp only[am,SS,sa,az]at*);(try rw[di Uc Uc]);(try simp only[lG (l:=a6) (sz:=3) (j:=0) i0,lG (l:=a6) (sz:=3) (j:=1) i0,lG (l:=a6) (sz:=3) (j:=2) i0]at*))
 all_goals first
  | (show(_:List DV)=_
     first
      |exact cg (DW i2 i0 Uc Uc)
      |exact cg (yA i2 Uc Uc)
      |done)
  | (show(_:List H)=_
     first
      |(have z:=DW (j:=0) (x:=p) i2 i0 Uc Uc;subst z;exact rfl)
      |(have z:=yA (j:=0) (x:=p) i2 Uc Uc;subst z;exact rfl)
      |done)
  |omega
  |exact ga
  |exact bR
  |exact Oi i2 Uc
  |exact DX h6 i0 Uc (by decide)
  |exact⟨i0,Uc,l6,Rw.scal (fs:=[tI,tI,tI]) h6 rfl,by simp[bN,iS,scal],rfl⟩
  |(show ay _ _=true;kernel_rfl)
  |exact⟨Zd,Zd⟩
  |exact Zd
  |done
abbrev Zy5:dq:=dP (fun F f=>match f with|106=>db F|107=>fT F|105=>fh F|108=>iK F|109=>fU F|110=>ew F|_=>fun _=>none) (by
 intro f;dsimp only;split;exact dV;exact mM;exact lc;exact oX;exact mN;exact jg;exact dy)
def gJ:EP:=fun F=>fun
 |[.mp hl_,.one (.v (.int Za i))]=>hM hl_ fun a0 a1 a2 a3 a4 a5 a6 a7 a8 a9 aA aB aC aD aE aF aG aH aI aJ aK aL aM aN=>(fun _=>tz a0 a1 a2 a4 a5 a6 a7 a8 a9 aA aB aD aL/\0<=i/\i<a6.length/\spOk (ag a6 i 0) (ag a6 i 1) (ag a6 i 2)=true/\inR aE 0 1073741823=true,[(Qw a0 a1 a2 a3 a4 a5 (F.xcS a2 a6 aE i) a7 a8 a9 aA aB aC aD (F.xcD a2 a6 aE i) aF aG aH aI aJ aK aL aM aN)],[.j (F.xcA a2 a6 aE i),.k (F.xcB a2 a6 i)])
 |_=>none
def pY:ep 65 gJ:=by
 intro _ _ _ _ h hp;dsimp only[gJ,F0,hM]at h;split at h;rotate_left;cases h;split at h<;>cases h
 rename_i i _ a0 a1 a2 a3 a4 a5 a6 a7 a8 a9 aA aB aC aD aE aF aG aH aI aJ aK aL aM aN;obtain⟨hp,i0,i1,hs,hd⟩:=hp;have h6:=hp.r6;have c6:=hp.c6;have c2:=hp.c2;have l2:=bj (es:=a2);have l6:=bj (es:=a6);have g0:=lG (l:=a6) (sz:=3) (j:=0) i0;have g1:=lG (l:=a6) (sz:=3) (j:=1) i0;have g2:=lG (l:=a6) (sz:=3) (j:=2) i0;have gf:frL (slN (ag a6 i 1)) (ubB a2 a6 i)=oO a2 a6 i:=rfl;refine pb Zy5 Tryz.func65 ?_
 intro O r os F hO hr hos hF;cbv
 repeat' first|apply Zc|(apply cN<;>intro hb<;>cbv)
 all_goals((try subst hos);subst hO hr hF;(try simp only[nc]at*);(try simp only[am,SS,sa,az]at*);(try simp only[g0,g1,g2]at*);(try simp only[gf]at*);(try have X:=ED hs hd (by omega:¬ (oO a2 a6 i).length=0));(try have eT:yM (.s 1 (oO a2 a6 i)) [((cuI aE ((oO a2 a6 i).length:Int)).toNat,0)]=oq a2 a6 aE i:=lG X.k0);(try simp only[eT]at*);(try have U:=adM h6 i0 i1 X);(try simp only[U.u]at*);(try simp only[U.g0,U.g1,U.g2]at*);(try have q:=K5 (s:=aE) (by omega:¬ (oO a2 a6 i).length=0)))
 all_goals first
  | (show(_:List DV)=_
     first
      |(have q:=K4 (s:=aE) (by omega:(oO a2 a6 i).length=0);first|(rw[q.2.2.2,q.1];done)|(rw[q.2.2.2,q.1];exact rfl))
      |(have q:=K4 (s:=aE) (by omega:(oO a2 a6 i).length=0);first|(rw[q.2.2.2];done)|(rw[q.2.2.2];exact rfl))
      |(first|(rw[q.2.2.2,q.1];done)|(rw[q.2.2.2,q.1];exact rfl))
      |(first|(rw[q.2.2.2,X.aa];done)|(rw[q.2.2.2,X.aa];exact rfl))
      |done)
  | (show(_:List H)=_
     first
      |(have q:=K4 (s:=aE) (by omega:(oO a2 a6 i).length=0);rw[q.2.1,q.2.2.1];exact rfl)
      |(rw[q.2.1,q.2.2.1];exact rfl)
      |done)
  |omega
  |exact ga
  |exact⟨X.k0,X.k1⟩
  |exact AH h6 i0 Uc
  |exact AH U.w i0 U.l
  |exact⟨hp.r2,hp.r6,Uc,Uc⟩
  |exact SQ X.r X.k0 X.k1
  |exact aaH h6 i0 i1 (by decide)
  |exact⟨i0,U.l⟩
  |exact⟨i0,i1⟩
  |(show ay _ _=true;kernel_rfl)
  |exact⟨Zd,Zd⟩
  |exact Zd
  |done
abbrev Zp0:dq:=dP (fun F f=>match f with|106=>db F|107=>fT F|105=>fh F|108=>iK F|109=>fU F|110=>ew F|_=>fun _=>none) (by
 intro f;dsimp only;split;exact dV;exact mM;exact lc;exact oX;exact mN;exact jg;exact dy)
def fD:EC:=fun F=>fun
 |[.ptr hl_,.one (.v (.int Za i))]=>hL hl_ fun a0 a1 a2 a3 a4 a5 a6 a7 a8 a9 aA aB aC aD aE aF aG aH aI aJ aK aL aM aN=>(fun _=>tz a0 a1 a2 a4 a5 a6 a7 a8 a9 aA aB aD aL/\0<=i/\i<a6.length/\spOk (ag a6 i 0) (ag a6 i 1) (ag a6 i 2)=true/\inR aE 0 1073741823=true/\xcB a2 a6 i=false,[.j (-1),.k false])
 |_=>none
def oQ:ec 65 fD:=by
 intro _ _ _ h hp;dsimp only[fD,F0,hL]at h;split at h;rotate_left;cases h;split at h<;>cases h
 rename_i i _ a0 a1 a2 a3 a4 a5 a6 a7 a8 a9 aA aB aC aD aE aF aG aH aI aJ aK aL aM aN;obtain⟨hp,i0,i1,hs,hd,hx⟩:=hp;have hx:=of_decide_eq_false hx;have h6:=hp.r6;have c6:=hp.c6;have c2:=hp.c2;have l2:=bj (es:=a2);have l6:=bj (es:=a6);have g1:=lG (l:=a6) (sz:=3) (j:=1) i0;have gf:frL (slN (ag a6 i 1)) (ubB a2 a6 i)=oO a2 a6 i:=rfl;refine cb Zp0 Tryz.func65 ?_
 intro O r F hO hr hF;cbv
 repeat' first|apply Zc|(apply cN<;>intro hb<;>cbv)
 all_goals(subst hO hr hF;(try simp only[nc]at*);(try simp only[am,SS,sa,az]at*);(try simp only[g1]at*);(try simp only[gf]at*))
 all_goals first
  | (show(_:List DV)=_
     first
      |exact rfl
      |done)
  | (show(_:List H)=_
     first
      |done)
  |omega
  |exact ga
  |(exfalso;omega)
  |exact AH h6 i0 Uc
  |exact⟨hp.r2,hp.r6,Uc,Uc⟩
  |exact⟨i0,i1⟩
  |(show ay _ _=true;kernel_rfl)
  |exact⟨Zd,Zd⟩
  |exact Zd
  |done
abbrev Zp1:dq:={
 Φ:=wC
 F0:=F0
 ct:=fun F f=>match f with|63=>ic F|64=>nD F|65=>fD F|_=>fun _=>none
 hc:=(by
  intro f;dsimp only;split;exact rq;exact Ag;exact oQ;exact dy)
 pt:=fun F f=>match f with|65=>some (gJ F)|66=>some (fm F)|67=>some (gO F)|_=>none
 hp:=(by
  intro f mk h;dsimp only at h;split at h<;>cases h
  exact pY;exact lm;exact p8)}
def iC:EP:=fun F=>fun
 |[.mp hl_,.one (.v (.int Za t)),.one (.v (.int Za k))]=>hM hl_ fun a0 a1 a2 a3 a4 a5 a6 a7 a8 a9 aA aB aC aD aE aF aG aH aI aJ aK aL aM aN=>(fun _=>tz a0 a1 a2 a4 a5 a6 a7 a8 a9 aA aB aD aL/\hpI a0 a1 a2 a3 a4 a5 a6 a7 a8 a9 aA aB aC aD aE aF aG aH aI aJ aK aL aM aN=true/\a3<=90000/\inR t 0 (a9.length-1)=true/\inR k 0 3=true/\bC a6<=1000000000/\bC a9<=300000000,[(Qw (F.xmC a0 a1 a2 a3 a4 a5 a6 a9 aE aI aJ aK t k) (F.xmU a0 a1 a2 a3 a4 a5 a6 a9 aE aI aJ aK t k) (F.xmE a0 a1 a2 a3 a4 a5 a6 a9 aE aI aJ aK t k) (F.xmK a0 a1 a2 a3 a4 a5 a6 a9 aE aI aJ aK t k) a4 (F.xmF a0 a1 a2 a3 a4 a5 a6 a9 aE aI aJ aK t k) (F.xmS a0 a1 a2 a3 a4 a5 a6 a9 aE aI aJ aK t k) a7 a8 (F.xmX a0 a1 a2 a3 a4 a5 a6 a9 aE aI aJ aK t k) aA aB aC aD (F.xmD a0 a1 a2 a3 a4 a5 a6 a9 aE aI aJ aK t k) aF aG aH aI aJ aK aL aM aN)],[.j (F.xmA a0 a1 a2 a3 a4 a5 a6 a9 aE aI aJ aK t k),.k (F.xmB a0 a1 a2 a3 a4 a5 a6 a9 aE aI aJ aK t k)])
 |_=>none
def rM:ep 25 iC:=by
 intro _ _ _ _ h hp;dsimp only[iC,F0,hM]at h;split at h;rotate_left;cases h;split at h<;>cases h
 rename_i t k _ a0 a1 a2 a3 a4 a5 a6 a7 a8 a9 aA aB aC aD aE aF aG aH aI aJ aK aL aM aN;obtain⟨hp,hk,c1,ht,kk,c6,c9⟩:=hp;have HH:=qt hk;have km:=(lA HH.k).1;have c0:=(lA HH.k).2.1;have tr:=bB.1 ht;have l6:=bj (es:=a6);have l9:=bj (es:=a9);have h6:=hp.r6;have kr:=bB.1 kk;refine Pd Zp1 (T:={tab with alL:=[(9,())]}) tw mixed 86 _ [3,4] [.tmp 6,.tmp 7] Tryz.func25 rfl rfl rfl rfl rfl rfl rfl ?_;intro O r os F hO hr hos hF;cbv
 repeat' first|apply Zc|(apply cN<;>intro hb<;>cbv)|(refine⟨[0,2,42,43,44],[0],Int,fun i=>[.reg 44 (.j i)],fun i=>0<=i/\i<=(a6.length:Int)/\upto (cI (Br a2 a6 aI aJ aK k)) i,fun i=>(a6.length-i).toNat,⟨0,?_,?_⟩,?_⟩;rotate_left;(focus (cbv;done));intro i hi;replace hi:0<=i/\i<=(a6.length:Int)/\upto (cI (Br a2 a6 aI aJ aK k)) i:=hi;obtain⟨i0,i1,i2⟩:=hi;cbv)|((refine adc (xcB a2 a6 i) (fun hb=>?_) (fun hb=>?_)))|(refine ai (O.ar .add Za i 1) ?_ ?_ ?_;focus (cbv;done))
 all_goals((try subst hos);subst hO hr hF;(try simp only[nc]at*);(try simp only[am,SS,sa,az]at*);(try simp only[mo]at*);(try rw[di Uc Uc]);(try simp only[lG (l:=a6) (sz:=3) (j:=0) i0,lG (l:=a6) (sz:=3) (j:=1) i0,lG (l:=a6) (sz:=3) (j:=2) i0]at*);(try have xb:=P9 (by assumption:MC a1 a2 a3 a4 a5 a6 k<0));(try have xb:=Qa (by assumption:0<=MC a1 a2 a3 a4 a5 a6 k));(try simp only[(abx xb).1,(abx xb).2]at*);(try simp only[adV xb]at*);(try have xb:xpB a1 a2 a3 a4 a5 1=false:=Ud);(try have xb:xpB a1 a2 a3 a4 a5 1=true:=Ud);(try have cf:ctB (aO a9 t 0) k=false:=Ud);(try have q:=abh (a0:=a0) (a1:=a1) (a2:=a2) (a3:=a3) (a4:=a4) (a5:=a5) (a6:=a6) (a9:=a9) (aE:=aE) (aI:=aI) (aJ:=aJ) (aK:=aK) (by assumption:ctB (aO a9 t 0) k=true));(try have q:=abj (a0:=a0) (a1:=a1) (a2:=a2) (a3:=a3) (a4:=a4) (a5:=a5) (a6:=a6) (a9:=a9) (aE:=aE) (aI:=aI) (aJ:=aJ) (aK:=aK) (t:=t) (k:=k) cf (Mw i2 Uc) xb);(try have q:=abk (a0:=a0) (a1:=a1) (a2:=a2) (a3:=a3) (a4:=a4) (a5:=a5) (a6:=a6) (a9:=a9) (aE:=aE) (aI:=aI) (aJ:=aJ) (aK:=aK) (t:=t) (k:=k) cf (Mw i2 Uc) xb);(try have q:=abi (a0:=a0) (a1:=a1) (a2:=a2) (a3:=a3) (a4:=a4) (a5:=a5) (a6:=a6) (a9:=a9) (aE:=aE) (aI:=aI) (aJ:=aJ) (aK:=aK) (t:=t) (k:=k) cf i0 (abl i2 i0 Uc Ud Ud Ud)))
 all_goals first
  | (show(_:List DV)=_
     first
      |(first|(rw[q.2.2.2.2.2.2.2.2.1,q.2.2.2.2.2.2.2.2.2];done)|(rw[q.2.2.2.2.2.2.2.2.1,q.2.2.2.2.2.2.2.2.2];exact rfl))
      |(first|(rw[q.2.2.2.2.2.2.2.2.1];done)|(rw[q.2.2.2.2.2.2.2.2.1];exact rfl))
      |(exfalso;omega)
      |done)
  | (show(_:List H)=_
     first
      |(first|(rw[q.1,q.2.1,q.2.2.1,q.2.2.2.1,q.2.2.2.2.1,q.2.2.2.2.2.1,q.2.2.2.2.2.2.1,q.2.2.2.2.2.2.2.1];done)|(rw[q.1,q.2.1,q.2.2.1,q.2.2.2.1,q.2.2.2.2.1,q.2.2.2.2.2.1,q.2.2.2.2.2.2.1,q.2.2.2.2.2.2.2.1];exact rfl))
      |(first|(rw[q.1,q.2.1,q.2.2.1,q.2.2.2.1,q.2.2.2.2.1,q.2.2.2.2.2.1,q.2.2.2.2.2.2.1,q.2.2.2.2.2.2.2.1,Mt hp.r9 tr.1 Uc];done)|(rw[q.1,q.2.1,q.2.2.1,q.2.2.2.1,q.2.2.2.2.1,q.2.2.2.2.2.1,q.2.2.2.2.2.2.1,q.2.2.2.2.2.2.2.1,Mt hp.r9 tr.1 Uc];exact rfl))
      |(exfalso;omega)
      |done)
  |omega
  |exact ga
  |exact GK hp.r9 tr.1 Uc
  |exact EW hp.r9 tr.1 Uc
  |exact⟨CW hp.r9 tr.1 Uc,Nat.le_trans pB Uc⟩
  |exact Ie hp.r9 tr.1 Uc
  |exact AH h6 i0 Uc
  |exact DX h6 i0 Uc (by decide)
  |exact bR
  |exact abn i2 Ud
  |exact abo i2 Ud
  |exact abp i2 Ud
  |exact⟨hp,i0,Uc,EF hk i0 Uc,HH.s⟩
  |exact⟨hp,i0,Uc,EF hk i0 Uc,HH.s,Ud⟩
  |exact⟨hp,HH.k,c0,c1,Uc,Uc⟩
  |exact⟨hp.r6,Uc⟩
  |exact P4 hp km c6 kk HH.s xb
  |exact absurd ((by assumption:xcB a2 a6 i=true).symm.trans (by assumption:xcB a2 a6 i=false)) Bool.noConfusion
  |exact absurd (abb (EF hk i0 Uc) HH.s Ud) Uc
  |(show ay _ _=true;kernel_rfl)
  |exact⟨Zd,Zd⟩
  |exact Zd
  |done
end Go.V