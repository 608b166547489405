/- Contracts. -/
import Derived.Test.YtllcfbgmhgodhaaGreatHoEr
set_option linter.all false
namespace Go.V
open Go Go.Proofs
set_option maxRecDepth 1000000
set_option maxHeartbeats 8000000
namespace Zf0
structure aQ where
 ltN:Int->Int->Int->Int->Int
 ltS:Int->Int->Int->Int->Int
 ltA:Int->Int->Int->Int->Int
 ltL:Int->Int->Int->Int->Int
 ltB:Int->Int->Int->Int->Bool
 obI:aa->Int->Int
 peM:aa->Int->Int
 peF:aa->Int->Int
 mapB:aa->Int->Bool
 kuC:aa->aa->Int->aa
 kuU:aa->aa->Int->aa
 kuE:aa->Int->aa
 zlI:aa->Int
 rpL:Int->aa->Int->Int->aa
 rpB:Int->aa->Int->Int->Bool
abbrev F0 :aQ:=⟨ltN,ltS,ltA,ltL,ltB,obI,peM,peF,mapB,kuC,kuU,kuE,zlI,rpL,rpB⟩
def ct (F:aQ):CT:=fun f ds=>match f,ds with
 |198,[.agg [.v (.int .i64 p),.v (.int .i64 n),.v (.int .i64 s)],.one (.v (.int .i64 z))]=>some (fun _=>True,[.agg [.i p,.i (F.ltN p n s z),.i (F.ltS p n s z)],.agg [.i (F.ltA p n s z),.i (F.ltL p n s z)],.k (F.ltB p n s z)])
 |199,[.agg [.s 1 a0,.s 1 a1,.s 2 a2,.v (.int .i64 a3),.s 1 a4,.s 2 a5,.s 3 a6,.s 3 a7,.s 4 a8,.s 1 a9,.s 1 aA,.s 1 aB,.v (.int .i64 aC),.s 3 aD,.v (.int .i64 aE),.v (.int .i64 aF),.v (.int .i64 aG),.v (.int .i64 aH),.v (.bool aI),.v (.int .i64 aJ),.v (.int .i64 aK),.s 1 aL,.v (.int .i64 aM),.v (.int .i64 aN)],.one (.v (.int .i64 ad))]=>some (fun _=>Rw [tI,tI,tI,tI] a8/\a8.length<=1099511627776,[.j (F.obI a8 ad)])
 |188,[.agg [.s 2 es],.one (.v (.int .i64 p))]=>some (fun _=>Rw [tI,tI] es,[.agg [.i (F.peM es p),.i (F.peF es p)]])
 |194,[.ptr [.s 1 a0,.s 1 a1,.s 2 a2,.v (.int .i64 a3),.s 1 a4,.s 2 a5,.s 3 a6,.s 3 a7,.s 4 a8,.s 1 a9,.s 1 aA,.s 1 aB,.v (.int .i64 aC),.s 3 aD,.v (.int .i64 aE),.v (.int .i64 aF),.v (.int .i64 aG),.v (.int .i64 aH),.v (.bool aI),.v (.int .i64 aJ),.v (.int .i64 aK),.s 1 aL,.v (.int .i64 aM),.v (.int .i64 aN)]]=>some (fun _=>a2.length<=1073741824,[.j (F.zlI a2)])
 |193,[.one (.v (.int .i64 n)),.one (.s 2 rs),.agg [.v (.int .i64 a),.v (.int .i64 l)]]=>some (fun _=>0<=n/\n<=1099511627776/\Rw [tI,tI] rs/\rs.length<=1073741824,[.one (.s 2 (F.rpL n rs a l)),.k (F.rpB n rs a l)])
 |_,_=>none
theorem ai :aS (ct F0):=by
 intro f ds pre res h hp;unfold ct at h;split at h<;>cases h
 exact pq hp;exact yx hp;exact dC hp;exact j7 hp;exact j5 hp
def pt (F:aQ):PT:=fun f=>match f with
 | 192=>some fun ds=>match ds with
   |[.mp [.own (.s 1 cs),.own (.s 1 us),.own (.s 2 es),.own (.v (.int .i64 c)),.own (.s 1 rs)],.one (.v (.int .i64 p))]=>some (fun _=>Rw [.sl [tI]] cs/\Rw [tB] us/\Rw [tI,tI] es/\Rw [tI] rs/\lT cs us es,[[.own (.s 1 (F.kuC cs es p)),.own (.s 1 (F.kuU us es p)),.own (.s 2 (F.kuE es p)),.own (.i c),.own (.s 1 rs)]],[.k (F.mapB es p)])
   |_=>none
 |_=>none
theorem fO :mP (pt F0):=by
 intro f mk h ds pre outs res hm hp;unfold pt at h;split at h
 ·cases h;dsimp only at hm;split at hm
  ·cases hm;exact j6 hp
  ·cases hm
 ·cases h
abbrev B :cy:={Φ:=aQ,F0:=F0,ct:=ct,hc:=ai,pt:=pt,hp:=fO}
end Zf0
theorem uI {a0 a1 a2:aa}{a3:Int}{a4 a5 a6 a7 a8 a9 aA aB:aa}{aC:Int}{aD:aa}{aE aF aG aH:Int}{aI:Bool}{aJ aK:Int}{aL:aa}{aM aN ad z:Int}(hp:gg a0 a1 a2 a4 a5 a6 a7 a8 a9 aA aB aD aL/\hpI a0 a1 a2 a3 a4 a5 a6 a7 a8 a9 aA aB aC aD aE aF aG aH aI aJ aK aL aM aN=true/\a3≠100000):kn 90 [.mp (Bz a0 a1 a2 a3 a4 a5 a6 a7 a8 a9 aA aB aC aD aE aF aG aH aI aJ aK aL aM aN),.j ad,.j z] [(Bz (ifR (tmB a7 ad z) (tmC a0 a1 a2 a7 ad z) a0) (ifR (tmB a7 ad z) (tmU a0 a1 a2 a7 ad z) a1) (ifR (tmB a7 ad z) (tmE a0 a1 a2 a7 ad z) a2) a3 a4 (ifR (tmB a7 ad z) (tmF a0 a1 a2 a5 a7 ad z) a5) a6 (ifR (tmB a7 ad z) (tmL a7 ad z) a7) (ifR (tmB a7 ad z) (tmO a8 ad z) a8) a9 aA aB aC aD aE aF aG aH aI aJ aK aL aM aN)] [.k (tmB a7 ad z)]:=by
 obtain⟨hp,hk,hn⟩:=hp;have l7:=ay (es:=a7);have c7:=hp.c7;have l8:=ay (es:=a8);have c8:=hp.c8;have l5:=ay (es:=a5);have c5:=hp.c5;have h7:=hp.r7;have h8:=hp.r8;refine pb Zf0.B Tryz.func90 ?_
 intro O r os F hO hr hos hF;cbv
 repeat' first|apply And.intro|(apply be<;>intro hb<;>cbv)|(refine⟨[0,1,2,7],[0],Int,fun i=>[.reg 7 (.j i)],fun i=>0<=i/\i<=((a7.length:Nat):Int)/\upto (cg (wZ a7 ad)) i,fun i=>(a7.length)-i.toNat,⟨0,?_,?_⟩,?_⟩;rotate_left;(focus (cbv;done));intro i hi;replace hi:0<=i/\i<=((a7.length:Nat):Int)/\upto (cg (wZ a7 ad)) i:=hi;obtain⟨i0,i1,i2⟩:=hi;cbv)|(refine ab (O.ar .add .i64 i 1) ?_ ?_ ?_;focus (cbv;done))|(refine⟨[0,1,8,9,11],[0,8,9],Int×aa,fun s_=>match s_ with|(x,c)=>[.reg 11 (.j x),.leaf 0 0 ⟨0,0,none,.own (.s 1 c)⟩],fun s_=>match s_ with|(x,c)=>ad+z<=x/\x<=ad+pfN z*16/\Ic a0 a1 a2 (peF a2 ((ad+z)/16)) ((ad+z)%16) (x- (ad+z)) c,fun s_=>match s_ with|(x,c)=>(ad+pfN z*16-x).toNat,⟨(O.ar .add .i64 ad z,a0),?_,?_⟩,?_⟩;rotate_left;(focus (cbv;done));intro s_ hx;obtain⟨x,c⟩:=s_;replace hx:ad+z<=x/\x<=ad+pfN z*16/\Ic a0 a1 a2 (peF a2 ((ad+z)/16)) ((ad+z)%16) (x- (ad+z)) c:=hx;obtain⟨x0,x1,x2⟩:=hx;cbv)|(refine⟨[0,9,13],[0,9],Int×aa×aa×aa,fun s_=>match s_ with|(p,d,u,e)=>[.reg 13 (.j p),.leaf 0 0 ⟨0,0,none,.own (.s 1 d)⟩,.leaf 0 1 ⟨0,0,none,.own (.s 1 u)⟩,.leaf 0 2 ⟨0,0,none,.own (.s 2 e)⟩],fun s_=>match s_ with|(p,d,u,e)=>qR a7 ad z<=p/\p<=qR a7 ad z+qS a7 ad z/\H9 c a1 a2 (qR a7 ad z) p d u e,fun s_=>match s_ with|(p,d,u,e)=>(qR a7 ad z+qS a7 ad z-p).toNat,⟨(F.ltA (O.pi (.s 3 a7) [(O.ad 0 i,0)]) (O.pi (.s 3 a7) [(O.ad 0 i,1)]) (O.pi (.s 3 a7) [(O.ad 0 i,2)]) z,c,a1,a2),?_,?_⟩,?_⟩;rotate_left;(focus (cbv;done));intro s_ hp;obtain⟨p,d,u,e⟩:=s_;replace hp:qR a7 ad z<=p/\p<=qR a7 ad z+qS a7 ad z/\H9 c a1 a2 (qR a7 ad z) p d u e:=hp;obtain⟨p0,p1,p2⟩:=hp;cbv)|(refine ab (O.ar .add .i64 x 1,O.up (.s 1 c) [(O.ad 0 (F.peF (O.sub a2 0 (O.ln a2)) (O.ar .quo .i64 x 16)),0),(O.ad 0 (O.ar .rem .i64 x 16),0)] [.i 0]) ?_ ?_ ?_;focus (cbv;done))|(refine ab (O.ar .add .i64 p 1,F.kuC d e p,F.kuU u e p,F.kuE e p) ?_ ?_ ?_;focus (cbv;done))
 all_goals((try subst hos);subst hO hr hF;(try simp only[nc]at*);(try simp only[aj,SS,sa,az]at*);(try simp only[vC]at*);(try rw[cv (by omega) (by omega)]);(try simp only[AW (l:=a7) (sz:=3) (j:=0) (i:=i) i0,AW (l:=a7) (sz:=3) (j:=1) (i:=i) i0,AW (l:=a7) (sz:=3) (j:=2) (i:=i) i0]at*);(try have hi:lhI a7 ad=i:=cJ i2 i0 (by assumption) (show wZ a7 ad i=true from decide_eq_true (by assumption)));(try subst hi);(try simp only[show ag a7 (lhI a7 ad) 0=fi a7 ad from rfl,show ag a7 (lhI a7 ad) 1=pY a7 ad from rfl,show ag a7 (lhI a7 ad) 2=xk a7 ad from rfl]at*);(try have b:=Sc (z:=z) i0 (by assumption));(try have T:=zy hp hk b);(try have p0:=T.t.p0);(try have n1:=T.t.n1);(try have m0:=T.t.m0);(try have m1:=T.t.m1);(try have z0:=T.t.z0);(try have o0:=T.o0);(try have o1:=T.o1);(try have pe:=T.p);(try have aq:=LH T);(try have f32:=T.f);(try have e1:bF .add .i64 ad z=ad+z:=bc (by omega));(try have e2:bF .mul .i64 (pfN z) 16=pfN z*16:=y9 (by omega));(try have e3:bF .add .i64 ad (pfN z*16)=ad+pfN z*16:=bc (by omega));(try have e4:bF .add .i64 (qR a7 ad z) (qS a7 ad z)=qR a7 ad z+qS a7 ad z:=bc (by omega));(try simp only[show ltA (fi a7 ad) (pY a7 ad) (xk a7 ad) z=qR a7 ad z from rfl,show ltL (fi a7 ad) (pY a7 ad) (xk a7 ad) z=qS a7 ad z from rfl,CF T]at*);(try simp only[e1]at*);(try simp only[e2]at*);(try simp only[e3]at*);(try simp only[e4]at*);(try have e5:bF .quo .i64 x 16=x/16:=oz (by omega) (by omega) (by omega));(try have e6:bF .rem .i64 x 16=x%16:=qN (by omega));(try have e7:bF .add .i64 x 1=x+1:=bc (by omega));(try have e8:bF .add .i64 p 1=p+1:=bc (by omega));(try simp only[e5]at*);(try simp only[e6]at*);(try simp only[e7]at*);(try simp only[e8]at*);(try have ex:x/16=(ad+z)/16:=(by omega));(try have er:x%16=(ad+z)%16+(x- (ad+z)):=(by omega));(try simp only[ex]at*);(try simp only[er]at*);(try have hm:=T.g ((ad+z)/16) (by omega) (by omega));(try have fr:=GU T.m hm);(try have cl:=x2.m.u.symm.trans T.m.u);(try have lf:=x2.m.l (peF a2 ((ad+z)/16)) fr.1 (by omega));(try have el:=p2.l);(try have e1c:=T.m.e1))
 all_goals first
  | (show(_:List DV)=_
     first
      |(have q:tmB a7 ad z=false:=Of (by rw[show lhI a7 ad= -1 from cK i2 (by omega)];decide);exact ak q.symm)
      |(have q:tmB a7 ad z=false:=Og (by assumption);exact ak q.symm)
      |exact ak b.symm
      |done)
  | (show(_:List H)=_
     first
      |(have q:tmB a7 ad z=false:=Of (by rw[show lhI a7 ad= -1 from cK i2 (by omega)];decide);rw[q];exact rfl)
      |(have q:tmB a7 ad z=false:=Og (by assumption);rw[q];exact rfl)
      |(have ec:=HT T x2 (by omega) (by omega);subst ec;have en:=yD (l:=qS a7 ad z) p2 (by omega) (by omega);have f0:=LF (a0:=a0) (a1:=a1) (a2:=a2) (a5:=a5) (a7:=a7) (ad:=ad) (z:=z) (by omega);rw[b,en.1,en.2.1,en.2.2,qU h7 i0 T.k1, <-li T,qT h8 o0 o1,f0];exact rfl)
      |(have ec:=HT T x2 (by omega) (by omega);subst ec;have en:=yD (l:=qS a7 ad z) p2 (by omega) (by omega);rw[b,en.1,en.2.1,en.2.2,qU h7 i0 T.k1, <-li T,qT h8 o0 o1];exact rfl)
      |done)
  |omega
  |exact Gw h7 i0 (by omega) (by decide)
  |exact KX h7 i0 (by omega)
  |exact LC h7 i0 (by omega)
  |exact LB h8 o0 o1
  |exact⟨h8,by omega⟩
  |exact hp.r2
  |exact bi
  |exact aV i2 (eW (show wZ a7 ad i=false from decide_eq_false (by assumption)))
  |exact Dh x2.w fr.1 (by omega) (by omega) (by omega)
  |exact sT x2.w fr.1 (by omega)
  |exact⟨by omega,by omega,nV x2.w fr.1 (by omega)⟩
  |(rw[Int.sub_self];exact HQ T.m hp.r0)
  |(rw[EY x2.w fr.1 (by omega) (by omega) (by omega),show x+1- (ad+z)=x- (ad+z)+1 by omega];exact CE x2 (by omega) hm rfl (by omega) (by omega))
  |exact FL x2.m x2.w hp.r1 hp.r2
  |exact yE p2 p0'
  |exact yE p2 (by omega)
  |exact⟨p2.rc,p2.ru,p2.re,hp.r4,p2.m⟩
  |exact⟨by unfold zlI;omega,by unfold zlI;omega,hp.r5,by omega⟩
  |(show aW _ _=true;kernel_rfl)
  |exact⟨True.intro,True.intro⟩
  |exact True.intro
  |done
namespace Zf1
structure aQ where
 lhI:aa->Int->Int
 hpI:aa->aa->aa->Int->aa->aa->aa->aa->aa->aa->aa->aa->Int->aa->Int->Int->Int->Int->Bool->Int->Int->aa->Int->Int->Bool
 ltN:Int->Int->Int->Int->Int
 ltS:Int->Int->Int->Int->Int
 ltA:Int->Int->Int->Int->Int
 ltL:Int->Int->Int->Int->Int
 ltB:Int->Int->Int->Int->Bool
 obI:aa->Int->Int
 tcC:aa->aa->Int->Int->aa
 duC:aa->aa->aa->Int->Int->aa
 duU:aa->aa->aa->Int->Int->aa
 duE:aa->aa->aa->Int->Int->aa
 rpL:Int->aa->Int->Int->aa
 zlI:aa->Int
 ccB:aa->aa->aa->Int->aa->Bool
 tmB:aa->Int->Int->Bool
 ifR:Bool->aa->aa->aa
 tmC:aa->aa->aa->aa->Int->Int->aa
 tmU:aa->aa->aa->aa->Int->Int->aa
 tmE:aa->aa->aa->aa->Int->Int->aa
 tmF:aa->aa->aa->aa->aa->Int->Int->aa
 tmL:aa->Int->Int->aa
 tmO:aa->Int->Int->aa
abbrev F0 :aQ:=⟨lhI,hpI,ltN,ltS,ltA,ltL,ltB,obI,tcC,duC,duU,duE,rpL,zlI,ccB,tmB,ifR,tmC,tmU,tmE,tmF,tmL,tmO⟩
def ct (F:aQ):CT:=fun f ds=>match f with
 | 50=>match ds with
   |[.agg [.s 1 a0,.s 1 a1,.s 2 a2,.v (.int .i64 a3),.s 1 a4,.s 2 a5,.s 3 a6,.s 3 a7,.s 4 a8,.s 1 a9,.s 1 aA,.s 1 aB,.v (.int .i64 aC),.s 3 aD,.v (.int .i64 aE),.v (.int .i64 aF),.v (.int .i64 aG),.v (.int .i64 aH),.v (.bool aI),.v (.int .i64 aJ),.v (.int .i64 aK),.s 1 aL,.v (.int .i64 aM),.v (.int .i64 aN)]]=>some (fun _=>gg a0 a1 a2 a4 a5 a6 a7 a8 a9 aA aB aD aL,[.agg (eD a0 a1 a2 a3 a4 a5 a6 a7 a8 a9 aA aB aC aD aE aF aG aH aI aJ aK aL aM aN)])
   |_=>none
 | 91=>match ds with
   |[.one (.s 3 os),.fn 92 [[.v (.int .i64 id)]]]=>some (fun _=>Rw [tI,tI,tI] os/\os.length<=1099511627776,[.j (F.lhI os id)])
   |_=>none
 | 52=>match ds with
   |[.agg [.s 1 a0,.s 1 a1,.s 2 a2,.v (.int .i64 a3),.s 1 a4,.s 2 a5,.s 3 a6,.s 3 a7,.s 4 a8,.s 1 a9,.s 1 aA,.s 1 aB,.v (.int .i64 aC),.s 3 aD,.v (.int .i64 aE),.v (.int .i64 aF),.v (.int .i64 aG),.v (.int .i64 aH),.v (.bool aI),.v (.int .i64 aJ),.v (.int .i64 aK),.s 1 aL,.v (.int .i64 aM),.v (.int .i64 aN)]]=>some (fun _=>E4 a0 a1 a2 a4 a5 a6 a7 a8 a9 aA aB aD aL,[.k (F.hpI a0 a1 a2 a3 a4 a5 a6 a7 a8 a9 aA aB aC aD aE aF aG aH aI aJ aK aL aM aN)])
   |_=>none
 | 93=>match ds with
   |[.agg [.v (.int .i64 p),.v (.int .i64 n),.v (.int .i64 s)],.one (.v (.int .i64 z))]=>some (fun _=>True,[.agg [.i p,.i (F.ltN p n s z),.i (F.ltS p n s z)],.agg [.i (F.ltA p n s z),.i (F.ltL p n s z)],.k (F.ltB p n s z)])
   |_=>none
 | 94=>match ds with
   |[.agg [.s 1 a0,.s 1 a1,.s 2 a2,.v (.int .i64 a3),.s 1 a4,.s 2 a5,.s 3 a6,.s 3 a7,.s 4 a8,.s 1 a9,.s 1 aA,.s 1 aB,.v (.int .i64 aC),.s 3 aD,.v (.int .i64 aE),.v (.int .i64 aF),.v (.int .i64 aG),.v (.int .i64 aH),.v (.bool aI),.v (.int .i64 aJ),.v (.int .i64 aK),.s 1 aL,.v (.int .i64 aM),.v (.int .i64 aN)],.one (.v (.int .i64 ad))]=>some (fun _=>Rw [tI,tI,tI,tI] a8/\a8.length<=1099511627776,[.j (F.obI a8 ad)])
   |_=>none
 | 38=>match ds with
   |[.agg [.s 1 a0,.s 1 a1,.s 2 a2,.v (.int .i64 a3),.s 1 a4,.s 2 a5,.s 3 a6,.s 3 a7,.s 4 a8,.s 1 a9,.s 1 aA,.s 1 aB,.v (.int .i64 aC),.s 3 aD,.v (.int .i64 aE),.v (.int .i64 aF),.v (.int .i64 aG),.v (.int .i64 aH),.v (.bool aI),.v (.int .i64 aJ),.v (.int .i64 aK),.s 1 aL,.v (.int .i64 aM),.v (.int .i64 aN)]]=>some (fun _=>gg a0 a1 a2 a4 a5 a6 a7 a8 a9 aA aB aD aL,[.agg (eD a0 a1 a2 a3 a4 a5 a6 a7 a8 a9 aA aB aC aD aE aF aG aH aI aJ aK aL aM aN)])
   |_=>none
 | 39=>match ds with
   |[.agg [.s 1 a0,.s 1 a1,.s 2 a2,.v (.int .i64 a3),.s 1 a4,.s 2 a5,.s 3 a6,.s 3 a7,.s 4 a8,.s 1 a9,.s 1 aA,.s 1 aB,.v (.int .i64 aC),.s 3 aD,.v (.int .i64 aE),.v (.int .i64 aF),.v (.int .i64 aG),.v (.int .i64 aH),.v (.bool aI),.v (.int .i64 aJ),.v (.int .i64 aK),.s 1 aL,.v (.int .i64 aM),.v (.int .i64 aN)]]=>some (fun _=>E4 a0 a1 a2 a4 a5 a6 a7 a8 a9 aA aB aD aL,[.k (F.hpI a0 a1 a2 a3 a4 a5 a6 a7 a8 a9 aA aB aC aD aE aF aG aH aI aJ aK aL aM aN)])
   |_=>none
 | 84=>match ds with
   |[.agg [.s 1 cs,.s 1 us,.s 2 es,.v (.int .i64 c),.s 1 rs]]=>some (fun _=>Rw [.sl [tI]] cs/\Rw [tB] us/\Rw [tI,tI] es/\Rw [tI] rs,[.k (F.ccB cs us es c rs)])
   |_=>none
 |_=>none
theorem ai :aS (ct F0):=by
 intro f ds pre res h hp;unfold ct at h;split at h<;>(try split at h)<;>cases h
 exact fU hp;exact bT hp;exact iD hp;exact oU hp;exact yo hp;exact gQ hp;exact fy hp;exact md hp
def pt (F:aQ):PT:=fun f=>match f with
 | 95=>some fun ds=>match ds with
   |[.mp [.own (.s 1 cs),.own (.s 1 us),.own (.s 2 es),.own (.v (.int .i64 c)),.own (.s 1 rs)],.one (.v (.int .i64 a)),.one (.v (.int .i64 n))]=>some (fun _=>Rw [.sl [tI]] cs/\Rw [tI,tI] es/\lT cs us es/\0<=a/\a<=9223372036854775807/\peM es (a/16)≠0/\0<=n/\a%16+n<=16,[[.own (.s 1 (F.tcC cs es a n)),.own (.s 1 us),.own (.s 2 es),.own (.i c),.own (.s 1 rs)]],[])
   |_=>none
 | 96=>some fun ds=>match ds with
   |[.mp [.own (.s 1 a0),.own (.s 1 a1),.own (.s 2 a2),.own (.v (.int .i64 a3)),.own (.s 1 a4),.own (.s 2 a5),.own (.s 3 a6),.own (.s 3 a7),.own (.s 4 a8),.own (.s 1 a9),.own (.s 1 aA),.own (.s 1 aB),.own (.v (.int .i64 aC)),.own (.s 3 aD),.own (.v (.int .i64 aE)),.own (.v (.int .i64 aF)),.own (.v (.int .i64 aG)),.own (.v (.int .i64 aH)),.own (.v (.bool aI)),.own (.v (.int .i64 aJ)),.own (.v (.int .i64 aK)),.own (.s 1 aL),.own (.v (.int .i64 aM)),.own (.v (.int .i64 aN))],.agg [.v (.int .i64 t),.v (.int .i64 l)]]=>some (fun _=>gg a0 a1 a2 a4 a5 a6 a7 a8 a9 aA aB aD aL/\kerOk a0 a1 a2 a3 a4=true/\a3≠100000/\a5.length<=536870911/\0<=t/\0<=l/\t+l<=1000,[(Bz (F.duC a0 a1 a2 t l) (F.duU a0 a1 a2 t l) (F.duE a0 a1 a2 t l) a3 a4 (F.rpL (F.zlI (F.duE a0 a1 a2 t l)) a5 t l) a6 a7 a8 a9 aA aB aC aD aE aF aG aH aI aJ aK aL aM aN)],[])
   |_=>none
 | 90=>some fun ds=>match ds with
   |[.mp [.own (.s 1 a0),.own (.s 1 a1),.own (.s 2 a2),.own (.v (.int .i64 a3)),.own (.s 1 a4),.own (.s 2 a5),.own (.s 3 a6),.own (.s 3 a7),.own (.s 4 a8),.own (.s 1 a9),.own (.s 1 aA),.own (.s 1 aB),.own (.v (.int .i64 aC)),.own (.s 3 aD),.own (.v (.int .i64 aE)),.own (.v (.int .i64 aF)),.own (.v (.int .i64 aG)),.own (.v (.int .i64 aH)),.own (.v (.bool aI)),.own (.v (.int .i64 aJ)),.own (.v (.int .i64 aK)),.own (.s 1 aL),.own (.v (.int .i64 aM)),.own (.v (.int .i64 aN))],.one (.v (.int .i64 ad)),.one (.v (.int .i64 z))]=>some (fun _=>gg a0 a1 a2 a4 a5 a6 a7 a8 a9 aA aB aD aL/\hpI a0 a1 a2 a3 a4 a5 a6 a7 a8 a9 aA aB aC aD aE aF aG aH aI aJ aK aL aM aN=true/\a3≠100000,[(Bz (F.ifR (F.tmB a7 ad z) (F.tmC a0 a1 a2 a7 ad z) a0) (F.ifR (F.tmB a7 ad z) (F.tmU a0 a1 a2 a7 ad z) a1) (F.ifR (F.tmB a7 ad z) (F.tmE a0 a1 a2 a7 ad z) a2) a3 a4 (F.ifR (F.tmB a7 ad z) (F.tmF a0 a1 a2 a5 a7 ad z) a5) a6 (F.ifR (F.tmB a7 ad z) (F.tmL a7 ad z) a7) (F.ifR (F.tmB a7 ad z) (F.tmO a8 ad z) a8) a9 aA aB aC aD aE aF aG aH aI aJ aK aL aM aN)],[.k (F.tmB a7 ad z)])
   |_=>none
 |_=>none
theorem fO :mP (pt F0):=by
 intro f mk h ds pre outs res hm hp;unfold pt at h;split at h
 ·cases h;dsimp only at hm;split at hm
  ·cases hm;exact mW hp
  ·cases hm
 ·cases h;dsimp only at hm;split at hm
  ·cases hm;exact iZ hp
  ·cases hm
 ·cases h;dsimp only at hm;split at hm
  ·cases hm;exact uI hp
  ·cases hm
 ·cases h
abbrev B :cy:={Φ:=aQ,F0:=F0,ct:=ct,hc:=ai,pt:=pt,hp:=fO}
end Zf1
theorem sk {a0 a1 a2:aa}{a3:Int}{a4 a5 a6 a7 a8 a9 aA aB:aa}{aC:Int}{aD:aa}{aE aF aG aH:Int}{aI:Bool}{aJ aK:Int}{aL:aa}{aM aN ad z:Int}(hp:gg a0 a1 a2 a4 a5 a6 a7 a8 a9 aA aB aD aL):au 21 [.agg (eD a0 a1 a2 a3 a4 a5 a6 a7 a8 a9 aA aB aC aD aE aF aG aH aI aJ aK aL aM aN),.j ad,.j z] [.agg (eD (ifR (tvB (hpI a0 a1 a2 a3 a4 a5 a6 a7 a8 a9 aA aB aC aD aE aF aG aH aI aJ aK aL aM aN) a3 a7 ad z) (tmC a0 a1 a2 a7 ad z) a0) (ifR (tvB (hpI a0 a1 a2 a3 a4 a5 a6 a7 a8 a9 aA aB aC aD aE aF aG aH aI aJ aK aL aM aN) a3 a7 ad z) (tmU a0 a1 a2 a7 ad z) a1) (ifR (tvB (hpI a0 a1 a2 a3 a4 a5 a6 a7 a8 a9 aA aB aC aD aE aF aG aH aI aJ aK aL aM aN) a3 a7 ad z) (tmE a0 a1 a2 a7 ad z) a2) a3 a4 (ifR (tvB (hpI a0 a1 a2 a3 a4 a5 a6 a7 a8 a9 aA aB aC aD aE aF aG aH aI aJ aK aL aM aN) a3 a7 ad z) (tmF a0 a1 a2 a5 a7 ad z) a5) a6 (ifR (tvB (hpI a0 a1 a2 a3 a4 a5 a6 a7 a8 a9 aA aB aC aD aE aF aG aH aI aJ aK aL aM aN) a3 a7 ad z) (tmL a7 ad z) a7) (ifR (tvB (hpI a0 a1 a2 a3 a4 a5 a6 a7 a8 a9 aA aB aC aD aE aF aG aH aI aJ aK aL aM aN) a3 a7 ad z) (tmO a8 ad z) a8) a9 aA aB aC aD aE aF aG aH aI aJ aK aL aM aN),.k (tvB (hpI a0 a1 a2 a3 a4 a5 a6 a7 a8 a9 aA aB aC aD aE aF aG aH aI aJ aK aL aM aN) a3 a7 ad z)]:=by
 refine cb Zf1.B Tryz.func21 ?_
 intro O r F hO hr hF;cbv
 repeat' first|apply And.intro|(apply be<;>intro hb<;>cbv)
 all_goals(subst hO hr hF;(try simp only[nc]at*);(try simp only[aj,SS,sa,az]at*);(try have hk:hpI a0 a1 a2 a3 a4 a5 a6 a7 a8 a9 aA aB aC aD aE aF aG aH aI aJ aK aL aM aN=true:=(by assumption));(try have kk:=(mf hk).k);(try have cc:=FE (cs:=a0) (us:=a1) (es:=a2) (c:=a3) (rs:=a4) (by assumption));(try have c3:=cc.1);(try have b:tmB a7 ad z=true:=(by assumption)))
 all_goals first
  | (show(_:List DV)=_
     first
      |(have q:tvB (hpI a0 a1 a2 a3 a4 a5 a6 a7 a8 a9 aA aB aC aD aE aF aG aH aI aJ aK aL aM aN) a3 a7 ad z=false:=Sd (by assumption);rw[q];exact rfl)
      |(have q:tvB (hpI a0 a1 a2 a3 a4 a5 a6 a7 a8 a9 aA aB aC aD aE aF aG aH aI aJ aK aL aM aN) a3 a7 ad z=false:=Se (FD kk (by assumption));rw[q];exact rfl)
      |(have q:tvB (hpI a0 a1 a2 a3 a4 a5 a6 a7 a8 a9 aA aB aC aD aE aF aG aH aI aJ aK aL aM aN) a3 a7 ad z=false:=Oh (by assumption);rw[q];exact rfl)
      |(have q:tvB (hpI a0 a1 a2 a3 a4 a5 a6 a7 a8 a9 aA aB aC aD aE aF aG aH aI aJ aK aL aM aN) a3 a7 ad z=true:=HV hk c3 b;rw[q,b];exact rfl)
      |done)
  |exact hp
  |exact hp.hp
  |exact⟨hp.r0,hp.r1,hp.r2,hp.r4⟩
  |exact⟨hp,hk,c3⟩
  |(rw[b];exact HU hp (zy hp hk b))
  |(show aW _ _=true;kernel_rfl)
  |exact⟨True.intro,True.intro⟩
  |exact True.intro
  |done
theorem qY {a0 a1 a2:aa}{a3:Int}{a4 a5 a6 a7 a8 a9 aA aB:aa}{aC:Int}{aD:aa}{aE aF aG aH:Int}{aI:Bool}{aJ aK:Int}{aL:aa}{aM aN ad z:Int}(hp:gg a0 a1 a2 a4 a5 a6 a7 a8 a9 aA aB aD aL):au 22 [.agg (eD a0 a1 a2 a3 a4 a5 a6 a7 a8 a9 aA aB aC aD aE aF aG aH aI aJ aK aL aM aN),.j ad,.j z] [.agg (eD (ifR (tvB (hpI a0 a1 a2 a3 a4 a5 a6 a7 a8 a9 aA aB aC aD aE aF aG aH aI aJ aK aL aM aN) a3 a7 ad z) (tmC a0 a1 a2 a7 ad z) a0) (ifR (tvB (hpI a0 a1 a2 a3 a4 a5 a6 a7 a8 a9 aA aB aC aD aE aF aG aH aI aJ aK aL aM aN) a3 a7 ad z) (tmU a0 a1 a2 a7 ad z) a1) (ifR (tvB (hpI a0 a1 a2 a3 a4 a5 a6 a7 a8 a9 aA aB aC aD aE aF aG aH aI aJ aK aL aM aN) a3 a7 ad z) (tmE a0 a1 a2 a7 ad z) a2) a3 a4 (ifR (tvB (hpI a0 a1 a2 a3 a4 a5 a6 a7 a8 a9 aA aB aC aD aE aF aG aH aI aJ aK aL aM aN) a3 a7 ad z) (tmF a0 a1 a2 a5 a7 ad z) a5) a6 (ifR (tvB (hpI a0 a1 a2 a3 a4 a5 a6 a7 a8 a9 aA aB aC aD aE aF aG aH aI aJ aK aL aM aN) a3 a7 ad z) (tmL a7 ad z) a7) (ifR (tvB (hpI a0 a1 a2 a3 a4 a5 a6 a7 a8 a9 aA aB aC aD aE aF aG aH aI aJ aK aL aM aN) a3 a7 ad z) (tmO a8 ad z) a8) a9 aA aB aC aD aE aF aG aH aI aJ aK aL aM aN),.k (tvB (hpI a0 a1 a2 a3 a4 a5 a6 a7 a8 a9 aA aB aC aD aE aF aG aH aI aJ aK aL aM aN) a3 a7 ad z)]:=by
 have l7:=ay (es:=a7);have c7:=hp.c7;have l8:=ay (es:=a8);have c8:=hp.c8;have l5:=ay (es:=a5);have c5:=hp.c5;have h7:=hp.r7;have h8:=hp.r8;refine cb Zf1.B Tryz.func22 ?_
 intro O r F hO hr hF;cbv
 repeat' first|apply And.intro|(apply be<;>intro hb<;>cbv)
 all_goals(subst hO hr hF;(try simp only[nc]at*);(try simp only[aj,SS,sa,az]at*);(try have i0:0<=lhI a7 ad:=(by omega));(try have i1:=(Qq i0).1);(try have hk:hpI a0 a1 a2 a3 a4 a5 a6 a7 a8 a9 aA aB aC aD aE aF aG aH aI aJ aK aL aM aN=true:=(by assumption));(try have kk:=(mf hk).k);(try have c3:a3≠100000:=(by assumption));(try simp only[show ag a7 (lhI a7 ad) 0=fi a7 ad from rfl,show ag a7 (lhI a7 ad) 1=pY a7 ad from rfl,show ag a7 (lhI a7 ad) 2=xk a7 ad from rfl]at*);(try have b:=Sc (z:=z) i0 (by assumption));(try have T:=zy hp hk b);(try have p0:=T.t.p0);(try have n1:=T.t.n1);(try have m0:=T.t.m0);(try have m1:=T.t.m1);(try have z0:=T.t.z0);(try have o0:=T.o0);(try have o1:=T.o1);(try have pe:=T.p);(try have aq:=LH T);(try have f32:=T.f);(try have e1:bF .mul .i64 (fi a7 ad) 16=fi a7 ad*16:=y9 (by omega));(try have e2:bF .add .i64 (fi a7 ad*16) z=fi a7 ad*16+z:=bc (by omega));(try have e3:bF .rem .i64 (fi a7 ad*16+z) 16=(fi a7 ad*16+z)%16:=qN (by omega));(try have e4:bF .sub .i64 16 ((fi a7 ad*16+z)%16)=16- (fi a7 ad*16+z)%16:=cR (by omega));(try simp only[show ltA (fi a7 ad) (pY a7 ad) (xk a7 ad) z=qR a7 ad z from rfl,show ltL (fi a7 ad) (pY a7 ad) (xk a7 ad) z=qS a7 ad z from rfl,CF T]at*);(try simp only[e1]at*);(try simp only[e2]at*);(try simp only[e3]at*);(try simp only[e4]at*);(try have hm:=T.g ((fi a7 ad*16+z)/16) (by omega) (by omega)))
 all_goals first
  | (show(_:List DV)=_
     first
      |(have q:tvB (hpI a0 a1 a2 a3 a4 a5 a6 a7 a8 a9 aA aB aC aD aE aF aG aH aI aJ aK aL aM aN) a3 a7 ad z=false:=Sd (by assumption);rw[q];exact rfl)
      |(have q:tvB (hpI a0 a1 a2 a3 a4 a5 a6 a7 a8 a9 aA aB aC aD aE aF aG aH aI aJ aK aL aM aN) a3 a7 ad z=false:=Se (by assumption);rw[q];exact rfl)
      |(have q:tvB (hpI a0 a1 a2 a3 a4 a5 a6 a7 a8 a9 aA aB aC aD aE aF aG aH aI aJ aK aL aM aN) a3 a7 ad z=false:=Oh (Of (by omega));rw[q];exact rfl)
      |(have q:tvB (hpI a0 a1 a2 a3 a4 a5 a6 a7 a8 a9 aA aB aC aD aE aF aG aH aI aJ aK aL aM aN) a3 a7 ad z=false:=Oh (Og (by assumption));rw[q];exact rfl)
      |(have q:tvB (hpI a0 a1 a2 a3 a4 a5 a6 a7 a8 a9 aA aB aC aD aE aF aG aH aI aJ aK aL aM aN) a3 a7 ad z=true:=HV hk c3 b;have g0:=LG (a0:=a0) (a1:=a1) (a2:=a2) (a5:=a5) (a7:=a7) (ad:=ad) (z:=z) (by omega);have d1:=HS (a0:=a0) (a2:=a2) (a7:=a7) (ad:=ad) (z:=z) (by assumption);rw[q,qU h7 i0 i1, <-li T,qT h8 o0 o1,g0.1,g0.2.1,g0.2.2.1,g0.2.2.2,d1];exact rfl)
      |(have q:tvB (hpI a0 a1 a2 a3 a4 a5 a6 a7 a8 a9 aA aB aC aD aE aF aG aH aI aJ aK aL aM aN) a3 a7 ad z=true:=HV hk c3 b;have d1:=HS (a0:=a0) (a2:=a2) (a7:=a7) (ad:=ad) (z:=z) (by assumption);rw[q,qU h7 i0 i1, <-li T,qT h8 o0 o1, <-d1];exact rfl)
      |(have q:tvB (hpI a0 a1 a2 a3 a4 a5 a6 a7 a8 a9 aA aB aC aD aE aF aG aH aI aJ aK aL aM aN) a3 a7 ad z=true:=HV hk c3 b;have g0:=LG (a0:=a0) (a1:=a1) (a2:=a2) (a5:=a5) (a7:=a7) (ad:=ad) (z:=z) (by omega);have d1:=HR (a0:=a0) (a2:=a2) (a7:=a7) (ad:=ad) (z:=z) (by assumption);rw[q,qU h7 i0 i1, <-li T,qT h8 o0 o1,g0.1,g0.2.1,g0.2.2.1,g0.2.2.2,d1];exact rfl)
      |(have q:tvB (hpI a0 a1 a2 a3 a4 a5 a6 a7 a8 a9 aA aB aC aD aE aF aG aH aI aJ aK aL aM aN) a3 a7 ad z=true:=HV hk c3 b;have d1:=R9 (a0:=a0) (a1:=a1) (a2:=a2) (a5:=a5) (a7:=a7) (ad:=ad) (z:=z) (by assumption);rw[q,qU h7 i0 i1, <-li T,qT h8 o0 o1,d1.1,d1.2.1,d1.2.2.1,d1.2.2.2];exact rfl)
      |done)
  |omega
  |exact hp
  |exact hp.hp
  |exact⟨h7,by omega⟩
  |exact⟨h8,by omega⟩
  |exact eR
  |exact Gw h7 i0 i1 (by decide)
  |exact KX h7 i0 i1
  |exact LC h7 i0 i1
  |exact LB h8 o0 o1
  |exact⟨hp.r0,hp.r2,T.m,by omega,by omega,hm,by omega,by omega⟩
  |(have d1:=HS (a0:=a0) (a2:=a2) (a7:=a7) (ad:=ad) (z:=z) (by assumption);have y:=LI hp T kk;rw[qU h7 i0 i1, <-li T,qT h8 o0 o1, <-d1];exact⟨y.1,y.2,c3,by omega,by omega,by omega,by omega⟩)
  |(have d1:=HR (a0:=a0) (a2:=a2) (a7:=a7) (ad:=ad) (z:=z) (by assumption);have y:=LI hp T kk;rw[d1]at y;rw[qU h7 i0 i1, <-li T,qT h8 o0 o1];exact⟨y.1,y.2,c3,by omega,by omega,by omega,by omega⟩)
  |(show aW _ _=true;kernel_rfl)
  |exact⟨True.intro,True.intro⟩
  |exact True.intro
  |done
end Go.V