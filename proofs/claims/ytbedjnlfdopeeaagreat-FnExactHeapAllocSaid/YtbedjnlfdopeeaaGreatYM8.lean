/- Contracts. -/
import Derived.Test.YtbedjnlfdopeeaaGreatYM7
set_option linter.all false
open Go
open And renaming intro->Zb
open Int renaming toNat->YQ
open IntKind renaming i64->Za
open List renaming length_nil->Zs,length_append->Zd,length_cons->Zp
open True renaming intro->Zf
namespace Go.V
open Go Go.Proofs
set_option maxRecDepth 1000000
set_option maxHeartbeats 8000000
abbrev Zq0:cZ:={
 Φ:=qp
 F0:=F0
 ct:=fun F f=>match f with|205=>dp F|_=>fun _=>none
 hc:=(by
  intro f;dsimp only;split;exact pO;exact db)
 pt:=fun F f=>match f with|203=>some (gU F)|_=>none
 hp:=(by
  intro f mk h;dsimp only at h;split at h<;>cases h
  exact oG)
 ot:=fun F f=>match f with|206=>some (av F)|_=>none
 ho:=(by
  intro f mk h;dsimp only at h;split at h<;>cases h
  exact cu)}
def jK:EP:=fun F=>fun
 |[.mp hl_,.one (.v (.int Za z))]=>hM hl_ fun a0 a1 a2 a3 a4 a5 a6 a7 a8 a9 aA aB aC aD aE aF aG aH aI aJ aK aL aM aN=>(fun _=>si a0 a1 a2 a4 a5 a6 a7 a8 a9 aA aB aD aL/\kerOk a0 a1 a2 a3 a4=true/\0<=a3/\a3<=90000/\NS z/\am a7<=1000000000,[(NY (F.xpC a0 a1 a2 a3 a4 a5 (F.pfN z)) (F.xpU a0 a1 a2 a3 a4 a5 (F.pfN z)) (F.xpE a0 a1 a2 a3 a4 a5 (F.pfN z)) (F.xpK a1 a2 a3 a4 a5 (F.pfN z)) a4 (F.xpF a1 a2 a3 a4 a5 (F.pfN z)) a6 (F.xlL a1 a2 a3 a4 a5 a7 z) a8 a9 aA aB aC aD aE aF aG aH aI aJ aK aL aM aN)],[.j (F.xlA a1 a2 a3 a4 a5 z),.k (F.xpB a1 a2 a3 a4 a5 (F.pfN z))])
 |_=>none
theorem vd:ep 91 jK:=by
 intro _ _ _ _ h hp;dsimp only[jK,F0,hM]at h;split at h;rotate_left;cases h;split at h<;>cases h
 rename_i z _ a0 a1 a2 a3 a4 a5 a6 a7 a8 a9 aA aB aC aD aE aF aG aH aI aJ aK aL aM aN;obtain⟨hp,hk,c0,c1,⟨z0,z1⟩,c7⟩:=hp;have l7:=aw (es:=a7);have h7:=hp.r7;refine pb Zq0 Tryz.func91 ?_
 intro O r os F hO hr hos hF;cbv
 repeat' first|apply Zb|(apply bG<;>intro hb<;>cbv)|(refine⟨[0,1,6,8],[0],Int,fun i=>[.reg 8 (.j i)],fun i=>0<=i/\i<=((a7.length:Nat):Int)/\upto (bT (DX a7 0 (xpA a1 a2 a3 a4 a5 (pfN z)))) i,fun i=>(a7.length)-i.toNat,⟨0,?_,?_⟩,?_⟩;rotate_left;(focus (cbv;done));intro i hi;replace hi:0<=i/\i<=((a7.length:Nat):Int)/\upto (bT (DX a7 0 (xpA a1 a2 a3 a4 a5 (pfN z)))) i:=hi;obtain⟨i0,i1,i2⟩:=hi;cbv)|(refine ag (O.ar .add Za i 1) ?_ ?_ ?_;focus (cbv;done))
 all_goals((try subst hos);subst hO hr hF;(try simp only[nc]at*);(try simp only[ai,SS,sa,az]at*);(try rw[cQ (by omega) (by omega)]);(try simp only[iJ (l:=a7) (sz:=3) (j:=0) i0]at*);(try have xb:xpB a1 a2 a3 a4 a5 (pfN z)=true:=(by assumption));(try have pg:=GC xb);(try have e1:bO .mul Za (xpA a1 a2 a3 a4 a5 (pfN z)) 16=xpA a1 a2 a3 a4 a5 (pfN z)*16:=D7 (by omega));(try have zi:=wD i2 i0 (by omega) (by omega:xpA a1 a2 a3 a4 a5 (pfN z)<=ah a7 i 0));(try have zi:=qW i2 (by omega) (by omega));(try have y:=aeX (a7:=a7) xb);(try have y:=abd (a7:=a7) (by assumption:xpB a1 a2 a3 a4 a5 (pfN z)=false)))
 all_goals first
  | (show(_:List DV)=_
     first
      |(first|(rw[y.2,xb,e1];done)|(rw[y.2,xb,e1];exact rfl))
      |(first|(rw[y.2,(by assumption:xpB a1 a2 a3 a4 a5 (pfN z)=false)];done)|(rw[y.2,(by assumption:xpB a1 a2 a3 a4 a5 (pfN z)=false)];exact rfl))
      |done)
  | (show(_:List H)=_
     first
      |(first|(rw[y.1];done)|(rw[y.1];exact rfl))
      |(first|(rw[y.1, <-zi];done)|(rw[y.1, <-zi];exact rfl))
      |done)
  |omega
  |exact fU
  |exact⟨hp,hk,c0,c1,adT z0 z1⟩
  |exact bB
  |exact JX i2 (by omega)
  |exact FK h7 i0 (by omega) (by decide)
  |exact⟨i0,by omega,by omega,Rw.scal (fs:=[tI,tI,tI]) h7 rfl,by simp[bJ,gX,scal],rfl⟩
  |(show aP _ _=true;kernel_rfl)
  |exact⟨Zf,Zf⟩
  |exact Zf
  |done
abbrev Zq1:cZ:={
 Φ:=qp
 F0:=F0
 ct:=fun F f=>match f with|286=>dp F|276=>iq F|287=>dE F|_=>fun _=>none
 hc:=(by
  intro f;dsimp only;split;exact pW;exact qb;exact oK;exact db)
 pt:=fun F f=>match f with|288=>some (j5 F)|274=>some (li F)|_=>none
 hp:=(by
  intro f mk h;dsimp only at h;split at h<;>cases h
  exact sD;exact xZ)}
def lq:EP:=fun F=>fun
 |[.mp hl_,.one (.v (.int Za z))]=>hM hl_ fun a0 a1 a2 a3 a4 a5 a6 a7 a8 a9 aA aB aC aD aE aF aG aH aI aJ aK aL aM aN=>(fun _=>si a0 a1 a2 a4 a5 a6 a7 a8 a9 aA aB aD aL/\kerOk a0 a1 a2 a3 a4=true/\0<=a3/\a3<=90000/\NS z/\am a7<=1000000000,[(NY (F.xpC a0 a1 a2 a3 a4 a5 (F.pfN z)) (F.xpU a0 a1 a2 a3 a4 a5 (F.pfN z)) (F.xpE a0 a1 a2 a3 a4 a5 (F.pfN z)) (F.xpK a1 a2 a3 a4 a5 (F.pfN z)) a4 (F.xpF a1 a2 a3 a4 a5 (F.pfN z)) a6 (F.xlL a1 a2 a3 a4 a5 a7 z) a8 a9 aA aB aC aD aE aF aG aH aI aJ aK aL aM aN)],[.j (F.xlA a1 a2 a3 a4 a5 z)])
 |_=>none
theorem x9:ep 200 lq:=by
 intro _ _ _ _ h hp;dsimp only[lq,F0,hM]at h;split at h;rotate_left;cases h;split at h<;>cases h
 rename_i z _ a0 a1 a2 a3 a4 a5 a6 a7 a8 a9 aA aB aC aD aE aF aG aH aI aJ aK aL aM aN;obtain⟨hp,hk,c0,c1,⟨z0,z1⟩,c7⟩:=hp;have km:=(kf hk).1;have q0:=hp.c0;have q1:=hp.c1;have q2:=hp.c2;have q4:=hp.c4;have q5:=hp.c5;have l2:=aw (es:=a2);have l5:=aw (es:=a5);have l7:=aw (es:=a7);have h7:=hp.r7;obtain⟨y,hy⟩:∃ y,qq a2 a5 (pfN z)=y:=⟨_,rfl⟩;refine pb Zq1 Tryz.func200 ?_
 intro O r os F hO hr hos hF;cbv
 repeat' first|apply Zb|(apply bG<;>intro hb<;>cbv)|(refine⟨[0,1,5,6,7,9],[0,23],Int×af×af×Int,fun s_=>match s_ with|(i,u,e,c)=>[.reg 9 (.j i),.leaf 0 1 ⟨0,0,none,.own (.s 1 u)⟩,.leaf 0 2 ⟨0,0,none,.own (.s 2 e)⟩,.leaf 0 3 ⟨0,0,none,.own (.i c)⟩],fun s_=>match s_ with|(i,u,e,c)=>0<=i/\i<=pfN z/\Df a0 a1 a2 a3 a4 y i u e/\c=a3+i,fun s_=>match s_ with|(i,u,e,c)=>(pfN z-i).toNat,⟨(0,a1,a2,a3),?_,?_⟩,?_⟩;rotate_left;(focus (cbv;done));intro s_ hi;obtain⟨i,u,e,c⟩:=s_;replace hi:0<=i/\i<=pfN z/\Df a0 a1 a2 a3 a4 y i u e/\c=a3+i:=hi;obtain⟨i0,i1,i2,i3⟩:=hi;cbv)|(refine⟨[0,7,9,10],[0],Int×af×af×af,fun s_=>match s_ with|(p,v,w,x)=>[.reg 10 (.j p),.leaf 0 0 ⟨0,0,none,.own (.s 1 v)⟩,.leaf 0 1 ⟨0,0,none,.own (.s 1 w)⟩,.leaf 0 2 ⟨0,0,none,.own (.s 2 x)⟩],fun s_=>match s_ with|(p,v,w,x)=>0<=p/\p<=i/\Kj a0 u e y (y+p) v w x,fun s_=>match s_ with|(p,v,w,x)=>(i-p).toNat,⟨(0,a0,F.kmU u e c a4 (O.ar .add Za (F.tkA (F.zlI a2) (O.sub a5 0 (O.ln a5)) (F.pfN z)) i),F.kmE u e c a4 (O.ar .add Za (F.tkA (F.zlI a2) (O.sub a5 0 (O.ln a5)) (F.pfN z)) i)),?_,?_⟩,?_⟩;rotate_left;(focus (cbv;done));intro s_ hp;obtain⟨p,v,w,x⟩:=s_;replace hp:0<=p/\p<=i/\Kj a0 u e y (y+p) v w x:=hp;obtain⟨p0,p1,p2⟩:=hp;cbv)|(refine⟨[0,1,5,7,11],[0],Int,fun n=>[.reg 11 (.j n)],fun n=>0<=n/\n<=((a7.length:Nat):Int)/\upto (bT (DX a7 0 y)) n,fun n=>(a7.length)-n.toNat,⟨0,?_,?_⟩,?_⟩;rotate_left;(focus (cbv;done));intro n hn;replace hn:0<=n/\n<=((a7.length:Nat):Int)/\upto (bT (DX a7 0 y)) n:=hn;obtain⟨n0,n1,n2⟩:=hn;cbv)|(refine ag (O.ar .add Za n 1) ?_ ?_ ?_;focus (cbv;done))|(refine ag (O.ar .add Za i 1,F.kmU u e c a4 (O.ar .add Za (F.tkA (F.zlI a2) (O.sub a5 0 (O.ln a5)) (F.pfN z)) i),F.kmE u e c a4 (O.ar .add Za (F.tkA (F.zlI a2) (O.sub a5 0 (O.ln a5)) (F.pfN z)) i),F.c1N c) ?_ ?_ ?_;focus (cbv;done))|(refine ag (O.ar .add Za p 1,F.kuC v x (O.ar .add Za (F.tkA (F.zlI a2) (O.sub a5 0 (O.ln a5)) (F.pfN z)) p),F.kuU w x (O.ar .add Za (F.tkA (F.zlI a2) (O.sub a5 0 (O.ln a5)) (F.pfN z)) p),F.kuE x (O.ar .add Za (F.tkA (F.zlI a2) (O.sub a5 0 (O.ln a5)) (F.pfN z)) p)) ?_ ?_ ?_;focus (cbv;done))
 all_goals((try subst hos);subst hO hr hF;(try simp only[nc]at*);(try simp only[ai,SS,sa,az]at*);(try rw[cQ (by omega) (by omega)]);(try simp only[iJ (l:=a7) (sz:=3) (j:=0) n0]at*);(try have hT:tkB (zlI a2) a5 (pfN z)=true:=(by assumption));(try have at_:=GB hT);(try rw[hy]at at_);(try simp only[show tkA (zlI a2) a5 (pfN z)=y from hy]at*);(try obtain rfl:=i3);(try have wc:=NQ hp.r0 i2);(try have e1:bO .add Za y i=y+i:=bF (by omega));(try have e2:bO .add Za i 1=i+1:=bF (by omega));(try have e3:bO .add Za p 1=p+1:=bF (by omega));(try have e4:bO .add Za y p=y+p:=bF (by omega));(try have e5:bO .mul Za y 16=y*16:=D7 (by omega));(try simp only[e1]at*);(try simp only[e2]at*);(try simp only[e3]at*);(try simp only[e4]at*);(try simp only[e5]at*);(try simp only[show c1N (a3+i)=a3+i+1 from rfl]at*);(try have q:=P9 (a0:=a0) (a1:=a1) (a3:=a3) (a4:=a4) (by assumption:tkB (zlI a2) a5 (pfN z)=false));(try have q:=NM hy hT i2 i0 (by omega) (by assumption) p2 (by omega) (by omega));(try have q:=NO hy hT i2 i0 (by omega) (by omega));(try have b:=abd (a7:=a7) q.2.2.2.2.2.2);(try have b:=aeX (a7:=a7) q.2.2.2.2.2.2);(try have zi:=wD n2 n0 (by omega) (by omega:y<=ah a7 n 0));(try have zi:=qW n2 (by omega) (by omega));(try have e6:=Au (es:=a7) (x:=[[.i y,.i (pfN z),.i z]]) n0 (by omega)))
 all_goals first
  | (show(_:List DV)=_
     first
      |(first|(rw[b.2];done)|(rw[b.2];exact rfl))
      |(first|(rw[b.2,q.2.2.2.2.2.1];done)|(rw[b.2,q.2.2.2.2.2.1];exact rfl))
      |done)
  | (show(_:List H)=_
     first
      |(first|(rw[b.1,q.1,q.2.1,q.2.2.1,q.2.2.2.1,q.2.2.2.2.1];done)|(rw[b.1,q.1,q.2.1,q.2.2.1,q.2.2.2.1,q.2.2.2.2.1];exact rfl))
      |(first|(rw[b.1,q.1,q.2.1,q.2.2.1,q.2.2.2.1,q.2.2.2.2.1,q.2.2.2.2.2.1,e6, <-zi];done)|(rw[b.1,q.1,q.2.1,q.2.2.1,q.2.2.2.1,q.2.2.2.2.1,q.2.2.2.2.2.1,e6, <-zi];exact rfl))
      |done)
  |omega
  |exact fU
  |exact⟨by unfold zlI;omega,by unfold zlI;omega,hp.r5,by omega,adT z0 z1⟩
  |exact⟨hp.r0,i2.ru,i2.re,hp.r4,i2.m,by omega,by omega,by omega⟩
  |exact Ie i2 i0 (by assumption)
  |exact⟨p2.rc,p2.ru,p2.re,hp.r4,p2.m⟩
  |(rw[show y+(p+1)=y+p+1 by omega];exact Hd p2 (by omega))
  |(have w:=Hy (by assumption:kmB u e (a3+i) a4 (y+i)=false);rw[w.1,w.2,Int.add_zero];exact Li i2.m hp.r0 i2.ru i2.re)
  |exact JD km hp.r1 hp.r2
  |exact bB
  |exact JX n2 (by omega)
  |exact FK h7 n0 (by omega) (by decide)
  |exact Rw.scal (fs:=[tI,tI,tI]) h7 rfl
  |exact Rw.scal (fs:=[tI,tI,tI]) (wN h7).1 rfl
  |(have sl:=fun(a b:Nat)=>(wN (a:=a) (b:=b) h7).2;refine⟨?_,?_⟩<;>(simp only[Zs,Zd,Zp];have s1:=sl (YQ 0) (EZ n 0);have s2:=sl n.toNat (EZ (a7.length:Int) n);omega))
  |(show aP _ _=true;kernel_rfl)
  |exact⟨Zf,Zf⟩
  |exact Zf
  |done
abbrev Zq2:cZ:={
 Φ:=qp
 F0:=F0
 ct:=fun F f=>match f with|39=>eR F|40=>f9 F|41=>aj F|89=>ed F|77=>cN F|28=>aj F|198=>ed F|179=>cN F|_=>fun _=>none
 hc:=(by
  intro f;dsimp only;split;exact wX;exact Bn;exact bc;exact uX;exact lM;exact bi;exact vA;exact lR;exact db)
 pt:=fun F f=>match f with|90=>some (jL F)|91=>some (jK F)|199=>some (lr F)|200=>some (lq F)|_=>none
 hp:=(by
  intro f mk h;dsimp only at h;split at h<;>cases h
  exact ve;exact vd;exact ya;exact x9)
 ot:=fun F f=>match f with|92=>some (bu F)|_=>none
 ho:=(by
  intro f mk h;dsimp only at h;split at h<;>cases h
  exact cJ)}
def ea:EC:=fun F=>fun
 |[.agg hl_,.one (.v (.int Za t)),.one (.v (.int Za z))]=>hL hl_ fun a0 a1 a2 a3 a4 a5 a6 a7 a8 a9 aA aB aC aD aE aF aG aH aI aJ aK aL aM aN=>(fun _=>si a0 a1 a2 a4 a5 a6 a7 a8 a9 aA aB aD aL/\am a6<=1000000000/\am a7<=1000000000/\am a8<=1000000000/\am a9<=300000000/\NS t/\NS z,[.agg (hpL (F.xaC (F.xaO (F.hpI a0 a1 a2 a3 a4 a5 a6 a7 a8 a9 aA aB aC aD aE aF aG aH aI aJ aK aL aM aN) a3 a8 a9 aG aH t z) a0 a1 a2 a3 a4 a5 a6 a7 a9 aE aI aJ aK t z) (F.xaU (F.xaO (F.hpI a0 a1 a2 a3 a4 a5 a6 a7 a8 a9 aA aB aC aD aE aF aG aH aI aJ aK aL aM aN) a3 a8 a9 aG aH t z) a0 a1 a2 a3 a4 a5 a6 a7 a9 aE aI aJ aK t z) (F.xaE (F.xaO (F.hpI a0 a1 a2 a3 a4 a5 a6 a7 a8 a9 aA aB aC aD aE aF aG aH aI aJ aK aL aM aN) a3 a8 a9 aG aH t z) a0 a1 a2 a3 a4 a5 a6 a7 a9 aE aI aJ aK t z) (F.xaK (F.xaO (F.hpI a0 a1 a2 a3 a4 a5 a6 a7 a8 a9 aA aB aC aD aE aF aG aH aI aJ aK aL aM aN) a3 a8 a9 aG aH t z) a0 a1 a2 a3 a4 a5 a6 a7 a9 aE aI aJ aK t z) a4 (F.xaF (F.xaO (F.hpI a0 a1 a2 a3 a4 a5 a6 a7 a8 a9 aA aB aC aD aE aF aG aH aI aJ aK aL aM aN) a3 a8 a9 aG aH t z) a0 a1 a2 a3 a4 a5 a6 a7 a9 aE aI aJ aK t z) (F.xaS (F.xaO (F.hpI a0 a1 a2 a3 a4 a5 a6 a7 a8 a9 aA aB aC aD aE aF aG aH aI aJ aK aL aM aN) a3 a8 a9 aG aH t z) a0 a1 a2 a3 a4 a5 a6 a7 a9 aE aI aJ aK t z) (F.xaL (F.xaO (F.hpI a0 a1 a2 a3 a4 a5 a6 a7 a8 a9 aA aB aC aD aE aF aG aH aI aJ aK aL aM aN) a3 a8 a9 aG aH t z) a0 a1 a2 a3 a4 a5 a6 a7 a9 aE aI aJ aK t z) (F.xaP a8 aH t z (F.xaA (F.xaO (F.hpI a0 a1 a2 a3 a4 a5 a6 a7 a8 a9 aA aB aC aD aE aF aG aH aI aJ aK aL aM aN) a3 a8 a9 aG aH t z) a0 a1 a2 a3 a4 a5 a6 a7 a9 aE aI aJ aK t z)) (F.xaX (F.xaO (F.hpI a0 a1 a2 a3 a4 a5 a6 a7 a8 a9 aA aB aC aD aE aF aG aH aI aJ aK aL aM aN) a3 a8 a9 aG aH t z) a0 a1 a2 a3 a4 a5 a6 a7 a9 aE aI aJ aK t z) aA aB aC aD (F.xaD (F.xaO (F.hpI a0 a1 a2 a3 a4 a5 a6 a7 a8 a9 aA aB aC aD aE aF aG aH aI aJ aK aL aM aN) a3 a8 a9 aG aH t z) a0 a1 a2 a3 a4 a5 a6 a7 a9 aE aI aJ aK t z) aF aG (F.xaN aH (F.xaA (F.xaO (F.hpI a0 a1 a2 a3 a4 a5 a6 a7 a8 a9 aA aB aC aD aE aF aG aH aI aJ aK aL aM aN) a3 a8 a9 aG aH t z) a0 a1 a2 a3 a4 a5 a6 a7 a9 aE aI aJ aK t z)) aI aJ aK aL aM aN),.j (F.xaA (F.xaO (F.hpI a0 a1 a2 a3 a4 a5 a6 a7 a8 a9 aA aB aC aD aE aF aG aH aI aJ aK aL aM aN) a3 a8 a9 aG aH t z) a0 a1 a2 a3 a4 a5 a6 a7 a9 aE aI aJ aK t z),.j (F.xaR (F.xaG (F.hpI a0 a1 a2 a3 a4 a5 a6 a7 a8 a9 aA aB aC aD aE aF aG aH aI aJ aK aL aM aN) a3 a8 a9 aG aH t z) (F.xaA (F.xaO (F.hpI a0 a1 a2 a3 a4 a5 a6 a7 a8 a9 aA aB aC aD aE aF aG aH aI aJ aK aL aM aN) a3 a8 a9 aG aH t z) a0 a1 a2 a3 a4 a5 a6 a7 a9 aE aI aJ aK t z))])
 |_=>none
theorem uV:ec 16 ea:=by
 intro _ _ _ h hp;dsimp only[ea,F0,hL]at h;split at h;rotate_left;cases h;split at h<;>cases h
 rename_i t z _ a0 a1 a2 a3 a4 a5 a6 a7 a8 a9 aA aB aC aD aE aF aG aH aI aJ aK aL aM aN;obtain⟨hp,c6,c7,c8,c9,ht,hz⟩:=hp;have l8:=aw (es:=a8);have l9:=aw (es:=a9);have h8:=hp.r8;have c8':=hp.c8;have c9':=hp.c9;have e0:bO .sub Za (a9.length:Int) 1=a9.length-1:=di (by omega);obtain⟨w,hw⟩:∃ w,xaA (xaO (hpI a0 a1 a2 a3 a4 a5 a6 a7 a8 a9 aA aB aC aD aE aF aG aH aI aJ aK aL aM aN) a3 a8 a9 aG aH t z) a0 a1 a2 a3 a4 a5 a6 a7 a9 aE aI aJ aK t z=w:=⟨_,rfl⟩;refine cb Zq2 Tryz.func16 ?_
 intro O r F hO hr hF;cbv
 repeat' first|apply Zb|(apply bG<;>intro hb<;>cbv)|(refine⟨[1,2,3,6,9,10,13],[3,6,9],Int,fun i=>[.reg 13 (.j i)],fun i=>0<=i/\i<=((a8.length:Nat):Int)/\upto (bT (DX a8 1 w)) i,fun i=>(a8.length)-i.toNat,⟨0,?_,?_⟩,?_⟩;rotate_left;(focus (cbv;done));intro i hi;replace hi:0<=i/\i<=((a8.length:Nat):Int)/\upto (bT (DX a8 1 w)) i:=hi;obtain⟨i0,i1,i2⟩:=hi;cbv)|(refine ag (O.ar .add Za i 1) ?_ ?_ ?_;focus (cbv;done))
 all_goals(subst hO hr hF;(try simp only[nc]at*);(try simp only[ai,SS,sa,az]at*);(try simp only[e0]at*);(try rw[cQ (by omega) (by omega)]);(try simp only[iJ (l:=a8) (sz:=4) (j:=1) i0]at*);(try have hk:hpI a0 a1 a2 a3 a4 a5 a6 a7 a8 a9 aA aB aC aD aE aF aG aH aI aJ aK aL aM aN=true:=(by assumption));(try have HH:=wC hk);(try have hx:=bA.1 HH.x);(try have c0:=(kf HH.k).2.1);(try have ti:inR t 0 (a9.length-1)=true:=(by assumption));(try have zi':inR z 1 1000=true:=(by assumption));(try have cz:=Bl (h:=hpI a0 a1 a2 a3 a4 a5 a6 a7 a8 a9 aA aB aC aD aE aF aG aH aI aJ aK aL aM aN) (a3:=a3) (a8:=a8) (a9:=a9) (aG:=aG) (aH:=aH) (t:=t) (z:=z) (.inl (by assumption)));(try have cz:=Bl (h:=hpI a0 a1 a2 a3 a4 a5 a6 a7 a8 a9 aA aB aC aD aE aF aG aH aI aJ aK aL aM aN) (a3:=a3) (a8:=a8) (a9:=a9) (aG:=aG) (aH:=aH) (t:=t) (z:=z) (.inr (.inl (by omega:aH=1000000))));(try have cz:=Bl (h:=hpI a0 a1 a2 a3 a4 a5 a6 a7 a8 a9 aA aB aC aD aE aF aG aH aI aJ aK aL aM aN) (a3:=a3) (a8:=a8) (a9:=a9) (aG:=aG) (aH:=aH) (t:=t) (z:=z) (.inr (.inr (by omega:90000<a3))));(try have cz:=RX (a8:=a8) (aG:=aG) (z:=z) hk (by omega:aH≠1000000) (by omega) (by assumption:inR t 0 (a9.length-1)=false));(try have cz:=RY (a8:=a8) (aG:=aG) hk (by omega:aH≠1000000) (by omega) ti (by assumption:inR z 1 1000=false));(try have cz:=RZ hk (by omega:aH≠1000000) (by omega) ti zi' (by omega:aG<bO .add Za (lsI a8) z));(try have cz:=R0 hk (by omega:aH≠1000000) (by omega) ti zi' (by omega:bO .add Za (lsI a8) z<=aG));(try have q:=P4 (a0:=a0) (a1:=a1) (a2:=a2) (a3:=a3) (a4:=a4) (a5:=a5) (a6:=a6) (a7:=a7) (a9:=a9) (aE:=aE) (aI:=aI) (aJ:=aJ) (aK:=aK) (t:=t) (z:=z) (NF cz (by decide)));(try have hm:w= -1:=hw.symm.trans q.2.2.2.2.2.2.2.2.2);(try have q:=aba (a0:=a0) (a1:=a1) (a2:=a2) (a3:=a3) (a4:=a4) (a5:=a5) (a6:=a6) (a7:=a7) (a9:=a9) (aE:=aE) (aI:=aI) (aJ:=aJ) (aK:=aK) (t:=t) (JB cz) (by omega:0<=clsOf z));(try have q:=aa9 (a0:=a0) (a1:=a1) (a2:=a2) (a3:=a3) (a4:=a4) (a5:=a5) (a6:=a6) (a7:=a7) (a9:=a9) (aE:=aE) (aI:=aI) (aJ:=aJ) (aK:=aK) (t:=t) (JB cz) (by omega:clsOf z<0));(try have hv:xmA a0 a1 a2 a3 a4 a5 a6 a9 aE aI aJ aK t (clsOf z)=w:=q.2.2.2.2.2.2.2.2.2.symm.trans hw);(try have hv:xlA a1 a2 a3 a4 a5 z=w:=q.2.2.2.2.2.2.2.2.2.symm.trans hw);(try have hm:=P7 hk (kB (by omega)) hv (ae0 hk (kB (by omega)) (by assumption) hv));(try have w0:=ae5 hk (kB (by omega)) (by assumption) hv);(try have hm:=P5 hv (R5 (by assumption) hv));(try have w0:=R6 (by assumption) hv);(try have hm:=P7 hk (kB (by omega)) hv (by omega:w<0));(try have hm:=P5 hv (by omega:w<0));(try simp only[hv]at*);(try subst hm);(try have p:=NH (a8:=a8) (aH:=aH) (t:=t) (z:=z) (w:= -1) (by decide));(try have r:=R3 (c:=0) (w:= -1) rfl (by decide));(try have p:=R1 (a8:=a8) (aH:=aH) (t:=t) (z:=z) (by omega:0<=w));(try have r:=R2 (c:=0) rfl (by omega:0<=w));(try have zi:=wD i2 i0 (by omega) (by omega:w<=ah a8 i 1));(try have zi:=qW (j:=1) (x:=w) i2 (by omega) (by omega));(try have e9:bO .add Za aH 1=aH+1:=bF (by omega));(try have e6:=Au (es:=a8) (x:=[[.i aH,.i w,.i z,.i t]]) i0 (by omega)))
 all_goals first
  | (show(_:List DV)=_
     first
      |(first|(rw[q.1,q.2.1,q.2.2.1,q.2.2.2.1,q.2.2.2.2.1,q.2.2.2.2.2.1,q.2.2.2.2.2.2.1,q.2.2.2.2.2.2.2.1,q.2.2.2.2.2.2.2.2.1,q.2.2.2.2.2.2.2.2.2,cz,p.1,p.2];done)|(rw[q.1,q.2.1,q.2.2.1,q.2.2.2.1,q.2.2.2.2.1,q.2.2.2.2.2.1,q.2.2.2.2.2.2.1,q.2.2.2.2.2.2.2.1,q.2.2.2.2.2.2.2.2.1,q.2.2.2.2.2.2.2.2.2,cz,p.1,p.2];exact rfl))
      |(first|(rw[q.1,q.2.1,q.2.2.1,q.2.2.2.1,q.2.2.2.2.1,q.2.2.2.2.2.1,q.2.2.2.2.2.2.1,q.2.2.2.2.2.2.2.1,q.2.2.2.2.2.2.2.2.1,q.2.2.2.2.2.2.2.2.2,cz,p.1,p.2,r];done)|(rw[q.1,q.2.1,q.2.2.1,q.2.2.2.1,q.2.2.2.2.1,q.2.2.2.2.2.1,q.2.2.2.2.2.2.1,q.2.2.2.2.2.2.2.1,q.2.2.2.2.2.2.2.2.1,q.2.2.2.2.2.2.2.2.2,cz,p.1,p.2,r];exact rfl))
      |(first|(rw[q.1,q.2.1,q.2.2.1,q.2.2.2.1,q.2.2.2.2.1,q.2.2.2.2.2.1,q.2.2.2.2.2.2.1,q.2.2.2.2.2.2.2.1,q.2.2.2.2.2.2.2.2.1,q.2.2.2.2.2.2.2.2.2,cz,p.1,p.2,r, <-zi,e9];done)|(rw[q.1,q.2.1,q.2.2.1,q.2.2.2.1,q.2.2.2.2.1,q.2.2.2.2.2.1,q.2.2.2.2.2.2.1,q.2.2.2.2.2.2.2.1,q.2.2.2.2.2.2.2.2.1,q.2.2.2.2.2.2.2.2.2,cz,p.1,p.2,r, <-zi,e9];exact rfl))
      |done)
  | (show(_:List H)=_
     first
      |done)
  |omega
  |exact fU
  |exact hp
  |exact hp.hp
  |exact⟨h8,by omega⟩
  |exact⟨hp,hk,by omega,ti,kB (by assumption),c6,c9⟩
  |exact⟨hp,HH.k,c0,by omega,hz,c7⟩
  |exact Re h8 i0 (by omega) (by decide)
  |exact bB
  |exact JX i2 (by omega)
  |exact⟨i0,by omega,by omega,Rw.scal (fs:=[tI,tI,tI,tI]) h8 rfl,by simp[bJ,gX,scal],rfl⟩
  |exact Rw.scal (fs:=[tI,tI,tI,tI]) h8 rfl
  |exact Rw.scal (fs:=[tI,tI,tI,tI]) (wN h8).1 rfl
  |(have sl:=fun(a b:Nat)=>(wN (a:=a) (b:=b) h8).2;refine⟨?_,?_⟩<;>(simp only[Zs,Zd,Zp];have s1:=sl (YQ 0) (EZ i 0);have s2:=sl i.toNat (EZ (a8.length:Int) i);omega))
  |(show aP _ _=true;kernel_rfl)
  |exact⟨Zf,Zf⟩
  |exact Zf
  |done
def lp:EP:=fun F=>fun
 |[.mp hl_,.one (.v (.int Za t)),.one (.v (.int Za z))]=>hM hl_ fun a0 a1 a2 a3 a4 a5 a6 a7 a8 a9 aA aB aC aD aE aF aG aH aI aJ aK aL aM aN=>(fun _=>si a0 a1 a2 a4 a5 a6 a7 a8 a9 aA aB aD aL/\hpI a0 a1 a2 a3 a4 a5 a6 a7 a8 a9 aA aB aC aD aE aF aG aH aI aJ aK aL aM aN=true/\am a6<=1000000000/\am a7<=1000000000/\am a8<=1000000000/\am a9<=300000000/\NS t/\NS z,[(NY (F.xaC (F.xaO (F.hpI a0 a1 a2 a3 a4 a5 a6 a7 a8 a9 aA aB aC aD aE aF aG aH aI aJ aK aL aM aN) a3 a8 a9 aG aH t z) a0 a1 a2 a3 a4 a5 a6 a7 a9 aE aI aJ aK t z) (F.xaU (F.xaO (F.hpI a0 a1 a2 a3 a4 a5 a6 a7 a8 a9 aA aB aC aD aE aF aG aH aI aJ aK aL aM aN) a3 a8 a9 aG aH t z) a0 a1 a2 a3 a4 a5 a6 a7 a9 aE aI aJ aK t z) (F.xaE (F.xaO (F.hpI a0 a1 a2 a3 a4 a5 a6 a7 a8 a9 aA aB aC aD aE aF aG aH aI aJ aK aL aM aN) a3 a8 a9 aG aH t z) a0 a1 a2 a3 a4 a5 a6 a7 a9 aE aI aJ aK t z) (F.xaK (F.xaO (F.hpI a0 a1 a2 a3 a4 a5 a6 a7 a8 a9 aA aB aC aD aE aF aG aH aI aJ aK aL aM aN) a3 a8 a9 aG aH t z) a0 a1 a2 a3 a4 a5 a6 a7 a9 aE aI aJ aK t z) a4 (F.xaF (F.xaO (F.hpI a0 a1 a2 a3 a4 a5 a6 a7 a8 a9 aA aB aC aD aE aF aG aH aI aJ aK aL aM aN) a3 a8 a9 aG aH t z) a0 a1 a2 a3 a4 a5 a6 a7 a9 aE aI aJ aK t z) (F.xaS (F.xaO (F.hpI a0 a1 a2 a3 a4 a5 a6 a7 a8 a9 aA aB aC aD aE aF aG aH aI aJ aK aL aM aN) a3 a8 a9 aG aH t z) a0 a1 a2 a3 a4 a5 a6 a7 a9 aE aI aJ aK t z) (F.xaL (F.xaO (F.hpI a0 a1 a2 a3 a4 a5 a6 a7 a8 a9 aA aB aC aD aE aF aG aH aI aJ aK aL aM aN) a3 a8 a9 aG aH t z) a0 a1 a2 a3 a4 a5 a6 a7 a9 aE aI aJ aK t z) (F.xaP a8 aH t z (F.xaA (F.xaO (F.hpI a0 a1 a2 a3 a4 a5 a6 a7 a8 a9 aA aB aC aD aE aF aG aH aI aJ aK aL aM aN) a3 a8 a9 aG aH t z) a0 a1 a2 a3 a4 a5 a6 a7 a9 aE aI aJ aK t z)) (F.xaX (F.xaO (F.hpI a0 a1 a2 a3 a4 a5 a6 a7 a8 a9 aA aB aC aD aE aF aG aH aI aJ aK aL aM aN) a3 a8 a9 aG aH t z) a0 a1 a2 a3 a4 a5 a6 a7 a9 aE aI aJ aK t z) aA aB aC aD (F.xaD (F.xaO (F.hpI a0 a1 a2 a3 a4 a5 a6 a7 a8 a9 aA aB aC aD aE aF aG aH aI aJ aK aL aM aN) a3 a8 a9 aG aH t z) a0 a1 a2 a3 a4 a5 a6 a7 a9 aE aI aJ aK t z) aF aG (F.xaN aH (F.xaA (F.xaO (F.hpI a0 a1 a2 a3 a4 a5 a6 a7 a8 a9 aA aB aC aD aE aF aG aH aI aJ aK aL aM aN) a3 a8 a9 aG aH t z) a0 a1 a2 a3 a4 a5 a6 a7 a9 aE aI aJ aK t z)) aI aJ aK aL aM aN)],[.j (F.xaA (F.xaO (F.hpI a0 a1 a2 a3 a4 a5 a6 a7 a8 a9 aA aB aC aD aE aF aG aH aI aJ aK aL aM aN) a3 a8 a9 aG aH t z) a0 a1 a2 a3 a4 a5 a6 a7 a9 aE aI aJ aK t z),.j (F.xaR (F.xaG (F.hpI a0 a1 a2 a3 a4 a5 a6 a7 a8 a9 aA aB aC aD aE aF aG aH aI aJ aK aL aM aN) a3 a8 a9 aG aH t z) (F.xaA (F.xaO (F.hpI a0 a1 a2 a3 a4 a5 a6 a7 a8 a9 aA aB aC aD aE aF aG aH aI aJ aK aL aM aN) a3 a8 a9 aG aH t z) a0 a1 a2 a3 a4 a5 a6 a7 a9 aE aI aJ aK t z))])
 |_=>none
theorem x8:ep 88 lp:=by
 intro _ _ _ _ h hp;dsimp only[lp,F0,hM]at h;split at h;rotate_left;cases h;split at h<;>cases h
 rename_i t z _ a0 a1 a2 a3 a4 a5 a6 a7 a8 a9 aA aB aC aD aE aF aG aH aI aJ aK aL aM aN;obtain⟨hp,hk,c6,c7,c8,c9,ht,hz⟩:=hp;have l8:=aw (es:=a8);have l9:=aw (es:=a9);have h8:=hp.r8;have c8':=hp.c8;have c9':=hp.c9;have e0:bO .sub Za (a9.length:Int) 1=a9.length-1:=di (by omega);obtain⟨w,hw⟩:∃ w,xaA (xaO (hpI a0 a1 a2 a3 a4 a5 a6 a7 a8 a9 aA aB aC aD aE aF aG aH aI aJ aK aL aM aN) a3 a8 a9 aG aH t z) a0 a1 a2 a3 a4 a5 a6 a7 a9 aE aI aJ aK t z=w:=⟨_,rfl⟩;refine pb Zq2 Tryz.func88 ?_
 intro O r os F hO hr hos hF;cbv
 repeat' first|apply Zb|(apply bG<;>intro hb<;>cbv)|(refine⟨[0,1,2,8,9],[0],Int,fun i=>[.reg 9 (.j i)],fun i=>0<=i/\i<=((a8.length:Nat):Int)/\upto (bT (DX a8 1 w)) i,fun i=>(a8.length)-i.toNat,⟨0,?_,?_⟩,?_⟩;rotate_left;(focus (cbv;done));intro i hi;replace hi:0<=i/\i<=((a8.length:Nat):Int)/\upto (bT (DX a8 1 w)) i:=hi;obtain⟨i0,i1,i2⟩:=hi;cbv)|(refine ag (O.ar .add Za i 1) ?_ ?_ ?_;focus (cbv;done))
 all_goals((try subst hos);subst hO hr hF;(try simp only[nc]at*);(try simp only[ai,SS,sa,az]at*);(try simp only[e0]at*);(try rw[cQ (by omega) (by omega)]);(try simp only[iJ (l:=a8) (sz:=4) (j:=1) i0]at*);(try have hk:hpI a0 a1 a2 a3 a4 a5 a6 a7 a8 a9 aA aB aC aD aE aF aG aH aI aJ aK aL aM aN=true:=(by assumption));(try have HH:=wC hk);(try have hx:=bA.1 HH.x);(try have c0:=(kf HH.k).2.1);(try have ti:inR t 0 (a9.length-1)=true:=(by assumption));(try have zi':inR z 1 1000=true:=(by assumption));(try have cz:=Bl (h:=hpI a0 a1 a2 a3 a4 a5 a6 a7 a8 a9 aA aB aC aD aE aF aG aH aI aJ aK aL aM aN) (a3:=a3) (a8:=a8) (a9:=a9) (aG:=aG) (aH:=aH) (t:=t) (z:=z) (.inl (by assumption)));(try have cz:=Bl (h:=hpI a0 a1 a2 a3 a4 a5 a6 a7 a8 a9 aA aB aC aD aE aF aG aH aI aJ aK aL aM aN) (a3:=a3) (a8:=a8) (a9:=a9) (aG:=aG) (aH:=aH) (t:=t) (z:=z) (.inr (.inl (by omega:aH=1000000))));(try have cz:=Bl (h:=hpI a0 a1 a2 a3 a4 a5 a6 a7 a8 a9 aA aB aC aD aE aF aG aH aI aJ aK aL aM aN) (a3:=a3) (a8:=a8) (a9:=a9) (aG:=aG) (aH:=aH) (t:=t) (z:=z) (.inr (.inr (by omega:90000<a3))));(try have cz:=RX (a8:=a8) (aG:=aG) (z:=z) hk (by omega:aH≠1000000) (by omega) (by assumption:inR t 0 (a9.length-1)=false));(try have cz:=RY (a8:=a8) (aG:=aG) hk (by omega:aH≠1000000) (by omega) ti (by assumption:inR z 1 1000=false));(try have cz:=RZ hk (by omega:aH≠1000000) (by omega) ti zi' (by omega:aG<bO .add Za (lsI a8) z));(try have cz:=R0 hk (by omega:aH≠1000000) (by omega) ti zi' (by omega:bO .add Za (lsI a8) z<=aG));(try have q:=P4 (a0:=a0) (a1:=a1) (a2:=a2) (a3:=a3) (a4:=a4) (a5:=a5) (a6:=a6) (a7:=a7) (a9:=a9) (aE:=aE) (aI:=aI) (aJ:=aJ) (aK:=aK) (t:=t) (z:=z) (NF cz (by decide)));(try have hm:w= -1:=hw.symm.trans q.2.2.2.2.2.2.2.2.2);(try have q:=aba (a0:=a0) (a1:=a1) (a2:=a2) (a3:=a3) (a4:=a4) (a5:=a5) (a6:=a6) (a7:=a7) (a9:=a9) (aE:=aE) (aI:=aI) (aJ:=aJ) (aK:=aK) (t:=t) (JB cz) (by omega:0<=clsOf z));(try have q:=aa9 (a0:=a0) (a1:=a1) (a2:=a2) (a3:=a3) (a4:=a4) (a5:=a5) (a6:=a6) (a7:=a7) (a9:=a9) (aE:=aE) (aI:=aI) (aJ:=aJ) (aK:=aK) (t:=t) (JB cz) (by omega:clsOf z<0));(try have hv:xmA a0 a1 a2 a3 a4 a5 a6 a9 aE aI aJ aK t (clsOf z)=w:=q.2.2.2.2.2.2.2.2.2.symm.trans hw);(try have hv:xlA a1 a2 a3 a4 a5 z=w:=q.2.2.2.2.2.2.2.2.2.symm.trans hw);(try have hm:=P7 hk (kB (by omega)) hv (ae0 hk (kB (by omega)) (by assumption) hv));(try have w0:=ae5 hk (kB (by omega)) (by assumption) hv);(try have hm:=P5 hv (R5 (by assumption) hv));(try have w0:=R6 (by assumption) hv);(try have hm:=P7 hk (kB (by omega)) hv (by omega:w<0));(try have hm:=P5 hv (by omega:w<0));(try simp only[hv]at*);(try subst hm);(try have p:=NH (a8:=a8) (aH:=aH) (t:=t) (z:=z) (w:= -1) (by decide));(try have r:=R3 (c:=0) (w:= -1) rfl (by decide));(try have p:=R1 (a8:=a8) (aH:=aH) (t:=t) (z:=z) (by omega:0<=w));(try have r:=R2 (c:=0) rfl (by omega:0<=w));(try have zi:=wD i2 i0 (by omega) (by omega:w<=ah a8 i 1));(try have zi:=qW (j:=1) (x:=w) i2 (by omega) (by omega));(try have e9:bO .add Za aH 1=aH+1:=bF (by omega));(try have e6:=Au (es:=a8) (x:=[[.i aH,.i w,.i z,.i t]]) i0 (by omega)))
 all_goals first
  | (show(_:List DV)=_
     first
      |(first|(rw[q.2.2.2.2.2.2.2.2.2,cz];done)|(rw[q.2.2.2.2.2.2.2.2.2,cz];exact rfl))
      |(first|(rw[q.2.2.2.2.2.2.2.2.2,cz,r];done)|(rw[q.2.2.2.2.2.2.2.2.2,cz,r];exact rfl))
      |done)
  | (show(_:List H)=_
     first
      |(first|(rw[q.1,q.2.1,q.2.2.1,q.2.2.2.1,q.2.2.2.2.1,q.2.2.2.2.2.1,q.2.2.2.2.2.2.1,q.2.2.2.2.2.2.2.1,q.2.2.2.2.2.2.2.2.1,q.2.2.2.2.2.2.2.2.2,p.1,p.2];done)|(rw[q.1,q.2.1,q.2.2.1,q.2.2.2.1,q.2.2.2.2.1,q.2.2.2.2.2.1,q.2.2.2.2.2.2.1,q.2.2.2.2.2.2.2.1,q.2.2.2.2.2.2.2.2.1,q.2.2.2.2.2.2.2.2.2,p.1,p.2];exact rfl))
      |(first|(rw[q.1,q.2.1,q.2.2.1,q.2.2.2.1,q.2.2.2.2.1,q.2.2.2.2.2.1,q.2.2.2.2.2.2.1,q.2.2.2.2.2.2.2.1,q.2.2.2.2.2.2.2.2.1,q.2.2.2.2.2.2.2.2.2,p.1,p.2,e6, <-zi,e9];done)|(rw[q.1,q.2.1,q.2.2.1,q.2.2.2.1,q.2.2.2.2.1,q.2.2.2.2.2.1,q.2.2.2.2.2.2.1,q.2.2.2.2.2.2.2.1,q.2.2.2.2.2.2.2.2.1,q.2.2.2.2.2.2.2.2.2,p.1,p.2,e6, <-zi,e9];exact rfl))
      |done)
  |omega
  |exact fU
  |exact hp
  |exact hp.hp
  |exact⟨h8,by omega⟩
  |exact⟨hp,hk,by omega,ti,kB (by assumption),c6,c9⟩
  |exact⟨hp,HH.k,c0,by omega,hz,c7⟩
  |exact Re h8 i0 (by omega) (by decide)
  |exact bB
  |exact JX i2 (by omega)
  |exact⟨i0,by omega,by omega,Rw.scal (fs:=[tI,tI,tI,tI]) h8 rfl,by simp[bJ,gX,scal],rfl⟩
  |exact Rw.scal (fs:=[tI,tI,tI,tI]) h8 rfl
  |exact Rw.scal (fs:=[tI,tI,tI,tI]) (wN h8).1 rfl
  |(have sl:=fun(a b:Nat)=>(wN (a:=a) (b:=b) h8).2;refine⟨?_,?_⟩<;>(simp only[Zs,Zd,Zp];have s1:=sl (YQ 0) (EZ i 0);have s2:=sl i.toNat (EZ (a8.length:Int) i);omega))
  |(show aP _ _=true;kernel_rfl)
  |exact⟨Zf,Zf⟩
  |exact Zf
  |done
abbrev Zq3:cZ:={
 Φ:=qp
 F0:=F0
 ct:=fun F f=>match f with|26=>eR F|71=>f9 F|_=>fun _=>none
 hc:=(by
  intro f;dsimp only;split;exact zT;exact BP;exact db)
 pt:=fun F f=>match f with|88=>some (lp F)|_=>none
 hp:=(by
  intro f mk h;dsimp only at h;split at h<;>cases h
  exact x8)}
theorem vy:ec 15 ea:=by
 intro _ _ _ h hp;dsimp only[ea,F0,hL]at h;split at h;rotate_left;cases h;split at h<;>cases h
 rename_i t z _ a0 a1 a2 a3 a4 a5 a6 a7 a8 a9 aA aB aC aD aE aF aG aH aI aJ aK aL aM aN;obtain⟨hp,c6,c7,c8,c9,ht,hz⟩:=hp;refine cb Zq3 Tryz.func15 ?_
 intro O r F hO hr hF;cbv
 repeat' first|apply Zb|(apply bG<;>intro hb<;>cbv)
 all_goals(subst hO hr hF;(try simp only[nc]at*);(try simp only[ai,SS,sa,az]at*);(try have cz:=Bl (h:=hpI a0 a1 a2 a3 a4 a5 a6 a7 a8 a9 aA aB aC aD aE aF aG aH aI aJ aK aL aM aN) (a3:=a3) (a8:=a8) (a9:=a9) (aG:=aG) (aH:=aH) (t:=t) (z:=z) (.inl (by assumption)));(try have q:=P4 (a0:=a0) (a1:=a1) (a2:=a2) (a3:=a3) (a4:=a4) (a5:=a5) (a6:=a6) (a7:=a7) (a9:=a9) (aE:=aE) (aI:=aI) (aJ:=aJ) (aK:=aK) (t:=t) (z:=z) (NF cz (by decide))))
 all_goals first
  | (show(_:List DV)=_
     first
      |(first|(rw[q.1,q.2.1,q.2.2.1,q.2.2.2.1,q.2.2.2.2.1,q.2.2.2.2.2.1,q.2.2.2.2.2.2.1,q.2.2.2.2.2.2.2.1,q.2.2.2.2.2.2.2.2.1,q.2.2.2.2.2.2.2.2.2,cz];done)|(rw[q.1,q.2.1,q.2.2.1,q.2.2.2.1,q.2.2.2.2.1,q.2.2.2.2.2.1,q.2.2.2.2.2.2.1,q.2.2.2.2.2.2.2.1,q.2.2.2.2.2.2.2.2.1,q.2.2.2.2.2.2.2.2.2,cz];exact rfl))
      |exact rfl
      |done)
  | (show(_:List H)=_
     first
      |done)
  |omega
  |exact fU
  |exact hp
  |exact hp.hp
  |exact⟨hp,by assumption,c6,c7,c8,c9,ht,hz⟩
  |exact R4 hp c6 c7 c8 c9 ht hz rfl
  |(show aP _ _=true;kernel_rfl)
  |exact⟨Zf,Zf⟩
  |exact Zf
  |done
end Go.V