/- Contracts. -/
import Derived.Test.YtbedjnlfdopeeaaGreatXHoCu
import Derived.Test.YtbedjnlfdopeeaaGreatXOfCu
set_option linter.all false
open Go
open Act renaming eval->Xe,put->Yv
open And renaming intro->Zb
open Departure renaming mixedOrders->aaX
open IntKind renaming i64->ZC,i64->Za
open True renaming intro->Zk
open Value renaming int->Zn
namespace Go.V
open Go Go.Proofs
set_option maxRecDepth 1000000
set_option maxHeartbeats 8000000
open Go.Shelf Go.RowKit Go.Lib in
theorem zY:OA Tryz.prog 246:=by
 refine⟨fun w=>?_,fun b off sp len cap i hc hm hi w=>?_⟩<;>(go_enter Tryz.func246,Tryz.ntmps246;go_wp2;all_goals(go_ret;exact⟨rfl,rfl⟩))
open Go.Shelf Go.RowKit Go.Lib in
theorem zZ:OB Tryz.prog 246 3:=by
 intro w es b off cap i j S v1 v2 v3 F hlt;obtain⟨A,W1,zs,hA,hsrc,hcap,hm,hij,hj,s1,s2,s3,hcl,hW2,hW,hic,hjc⟩:=F.fx hlt [Zn ZC 0,Zn ZC 0,Zn ZC 0] Tryz.underlying61 Tryz.zeroValue186 rfl (List.all_eq_true.1 rfl) rfl;have mixed:Tryz.prog.follows aaX=true:=mixed;clear F
 go_enter Tryz.func246,Tryz.ntmps246
 go_wp2_with fail
 go_region_law_o (refine step_append_room rfl (.tmp 22) (.tmp 25) 61 rfl 186 _ 3 Tryz.underlying61 rfl rfl b off i cap (by simp[Xe,Yv]) A (es.length-j) (cap-j) v3 (by simp[Xe,Yv]) s1.out hsrc.out s2.out (by omega) s3.out ?_;rw[<-hW.out])
 go_wp2
 go_ret
 rw[hW.out];exact⟨rfl,hW2⟩
theorem b8 {es:aa}{i j:Int}(hp:0<=i/\i<=j/\j<=es.length):EK Tryz.prog 246 [.one (.s 3 es),.j i,.j j] [.one (.s 3 (delL es i j))]:=by
 exact GB zY zZ hp
theorem zQ {a0 a1 a2:aa}{a3:Int}{a4 a5 a6 a7 a8 a9 aA aB:aa}{aC:Int}{aD:aa}{aE aF aG aH:Int}{aI:Bool}{aJ aK:Int}{aL:aa}{aM aN p:Int}(hp:True):ap 139 [.agg (iF a0 a1 a2 a3 a4 a5 a6 a7 a8 a9 aA aB aC aD aE aF aG aH aI aJ aK aL aM aN),.j p] [.k (bsB aI aJ aK p)]:=by
 refine cb nB Tryz.func139 ?_
 intro O r F hO hr hF;cbv
 repeat' first|apply Zb|(apply bu<;>intro hb<;>cbv)
 all_goals(subst hO hr hF;(try simp only[nc]at*);(try simp only[ak,SS,sa,az]at*))
 all_goals first
  | (show(_:List DV)=_
     first
      |exact ai (OO (by assumption)).symm
      |exact ai (OM (by assumption) (by assumption)).symm
      |exact ai (ON (by assumption) (by assumption)).symm
      |done)
  |done
theorem wD {a0 a1 a2:aa}{a3:Int}{a4 a5 a6 a7 a8 a9 aA aB:aa}{aC:Int}{aD:aa}{aE aF aG aH:Int}{aI:Bool}{aJ aK:Int}{aL:aa}{aM aN p:Int}(hp:True):ap 215 [.ptr (iF a0 a1 a2 a3 a4 a5 a6 a7 a8 a9 aA aB aC aD aE aF aG aH aI aJ aK aL aM aN),.j p] [.k (bsB aI aJ aK p)]:=by
 refine cb nB Tryz.func215 ?_
 intro O r F hO hr hF;cbv
 repeat' first|apply Zb|(apply bu<;>intro hb<;>cbv)
 all_goals(subst hO hr hF;(try simp only[nc]at*);(try simp only[ak,SS,sa,az]at*))
 all_goals first
  | (show(_:List DV)=_
     first
      |exact ai (OO (by assumption)).symm
      |exact ai (OM (by assumption) (Eq.symm (by assumption))).symm
      |(rw[ON (by assumption) (fun e=>absurd e.symm (by assumption))];exact ai (decide_eq_decide.2 ⟨Eq.symm,Eq.symm⟩))
      |done)
  |done
theorem rH {a0 a1 a2:aa}{a3:Int}{a4 a5 a6 a7 a8 a9 aA aB:aa}{aC:Int}{aD:aa}{aE aF aG aH:Int}{aI:Bool}{aJ aK:Int}{aL:aa}{aM aN:Int}(hp:a2.length<=1073741824):ap 276 [.ptr (iF a0 a1 a2 a3 a4 a5 a6 a7 a8 a9 aA aB aC aD aE aF aG aH aI aJ aK aL aM aN)] [.j (zlI a2)]:=by
 refine cb nB Tryz.func276 ?_
 intro O r F hO hr hF;cbv
 repeat' first|apply Zb|(apply bu<;>intro hb<;>cbv)
 all_goals(subst hO hr hF;(try simp only[nc]at*);(try simp only[ak,SS,sa,az]at*))
 all_goals first|(show(_:List DV)=_;exact rfl)|done
namespace Zd1
structure aP where
 ktC:Bool->aa->aa->Int->aa
 ccB:aa->aa->aa->Int->aa->Bool
 ktU:Bool->aa->aa->Int->aa
 ktE:Bool->aa->Int->aa
 ktB:Bool->aa->Int->Bool
 zlI:aa->Int
 rpL:Int->aa->Int->Int->aa
 rpB:Int->aa->Int->Int->Bool
abbrev F0:aP:=⟨ktC,ccB,ktU,ktE,ktB,zlI,rpL,rpB⟩
def ct (F:aP):CT:=fun f ds=>match f,ds with
 |190,[.agg [.s 1 cs,.s 1 us,.s 2 es,.v (.int Za c),.s 1 rs],.one (.v (.int Za p))]=>some (fun _=>Rw [.sl [tI]] cs/\Rw [tB] us/\Rw [tI,tI] es/\Rw [tI] rs/\ah cs<=1099511627776/\ah us<=1099511627776/\ah es<=1099511627776/\ah rs<=1099511627776,[.agg [.s 1 (F.ktC (F.ccB cs us es c rs) cs es p),.s 1 (F.ktU (F.ccB cs us es c rs) us es p),.s 2 (F.ktE (F.ccB cs us es c rs) es p),.i c,.s 1 rs],.k (F.ktB (F.ccB cs us es c rs) es p)])
 |192,[.agg [.s 1 a0,.s 1 a1,.s 2 a2,.v (.int Za a3),.s 1 a4,.s 2 a5,.s 3 a6,.s 3 a7,.s 4 a8,.s 1 a9,.s 1 aA,.s 1 aB,.v (.int Za aC),.s 3 aD,.v (.int Za aE),.v (.int Za aF),.v (.int Za aG),.v (.int Za aH),.v (.bool aI),.v (.int Za aJ),.v (.int Za aK),.s 1 aL,.v (.int Za aM),.v (.int Za aN)]]=>some (fun _=>a2.length<=1073741824,[.j (F.zlI a2)])
 |191,[.one (.v (.int Za n)),.one (.s 2 rs),.agg [.v (.int Za a),.v (.int Za l)]]=>some (fun _=>0<=n/\n<=1099511627776/\Rw [tI,tI] rs/\rs.length<=1073741824,[.one (.s 2 (F.rpL n rs a l)),.k (F.rpB n rs a l)])
 |_,_=>none
theorem aj:aT (ct F0):=by
 intro f ds pre res h hp;unfold ct at h;split at h<;>cases h
 exact vR hp;exact sP hp;exact qj hp
abbrev B:cF:=tb aj
end Zd1
theorem oA {a0 a1 a2:aa}{a3:Int}{a4 a5 a6 a7 a8 a9 aA aB:aa}{aC:Int}{aD:aa}{aE aF aG aH:Int}{aI:Bool}{aJ aK:Int}{aL:aa}{aM aN t l:Int}(hp:iI a0 a1 a2 a4 a5 a6 a7 a8 a9 aA aB aD aL/\kerOk a0 a1 a2 a3 a4=true/\a3≠100000/\a5.length<=536870911/\0<=t/\0<=l/\t+l<=1000):jV 81 [.mp (zz a0 a1 a2 a3 a4 a5 a6 a7 a8 a9 aA aB aC aD aE aF aG aH aI aJ aK aL aM aN),.agg [.i t,.i l]] [(zz (duC a0 a1 a2 t l) (duU a0 a1 a2 t l) (duE a0 a1 a2 t l) a3 a4 (rpL (zlI (duE a0 a1 a2 t l)) a5 t l) a6 a7 a8 a9 aA aB aC aD aE aF aG aH aI aJ aK aL aM aN)] []:=by
 obtain⟨hp,hk,hn,h5,t0,l0,tl⟩:=hp;have km:=(pN hk).1;have e1:bK .add Za t l=t+l:=bh (by omega);have c0:=hp.c0;have c1:=hp.c1;have c2:=hp.c2;have c4:=hp.c4;have c5:=hp.c5;have q2:=aO (es:=a2);refine pb Zd1.B Tryz.func81 ?_
 intro O r os F hO hr hos hF;cbv
 repeat' first|apply Zb|(apply bu<;>intro hb<;>cbv)|(refine⟨[0,3,4],[0,3],Int×aa×aa×aa×aa,fun s_=>match s_ with|(p,c,u,e,r)=>[.reg 4 (.j p),.leaf 0 0 ⟨0,0,none,.own (.s 1 c)⟩,.leaf 0 1 ⟨0,0,none,.own (.s 1 u)⟩,.leaf 0 2 ⟨0,0,none,.own (.s 2 e)⟩,.leaf 0 3 ⟨0,0,none,.own (.i a3)⟩,.leaf 0 4 ⟨0,0,none,.own (.s 1 r)⟩],fun s_=>match s_ with|(p,c,u,e,r)=>t<=p/\p<=t+l/\Lq a0 a1 a2 t p c u e/\r=a4,fun s_=>match s_ with|(p,c,u,e,r)=>(t+l-p).toNat,⟨(t,a0,a1,a2,a4),?_,?_⟩,?_⟩;rotate_left;(focus (cbv;done));intro s_ hp;obtain⟨p,c,u,e,r⟩:=s_;replace hp:t<=p/\p<=t+l/\Lq a0 a1 a2 t p c u e/\r=a4:=hp;obtain⟨p0,p1,p2,p3⟩:=hp;cbv)|(refine ab (O.ar .add Za p 1,F.ktC (F.ccB (O.sub c 0 (O.ln c)) (O.sub u 0 (O.ln u)) (O.sub e 0 (O.ln e)) a3 (O.sub r 0 (O.ln r))) (O.sub c 0 (O.ln c)) (O.sub e 0 (O.ln e)) p,F.ktU (F.ccB (O.sub c 0 (O.ln c)) (O.sub u 0 (O.ln u)) (O.sub e 0 (O.ln e)) a3 (O.sub r 0 (O.ln r))) (O.sub u 0 (O.ln u)) (O.sub e 0 (O.ln e)) p,F.ktE (F.ccB (O.sub c 0 (O.ln c)) (O.sub u 0 (O.ln u)) (O.sub e 0 (O.ln e)) a3 (O.sub r 0 (O.ln r))) (O.sub e 0 (O.ln e)) p,(O.sub r 0 (O.ln r))) ?_ ?_ ?_;focus (cbv;done))
 all_goals((try subst hos);subst hO hr hF;(try simp only[nc]at*);(try simp only[ak,SS,sa,az]at*);(try simp only[e1]at*);(try rw[cy (by omega) (by omega)]);(try subst p3);(try have dc:=Ii p2);(try have el:=p2.l);(try have cc:=LR p2.m hk hn);(try have kk:=P9 (cs:=c) (us:=u) (es:=e) (p:=p) cc);(try have en:=Ij (l:=l) p2 (by omega) (by omega)))
 all_goals first
  |(show(_:List DV)=_;exact rfl)
  | (show(_:List H)=_
     first
      |(first|(rw[<-en.1, <-en.2.1, <-en.2.2];done)|(rw[<-en.1, <-en.2.1, <-en.2.2];exact rfl))
      |done)
  |omega
  |exact⟨p2.rc,p2.ru,p2.re,hp.r4,by omega,by omega,by omega,by omega⟩
  |exact O8 km hp.r0 hp.r1 hp.r2
  |(show(_:aa)=_;exact rfl)
  |(rw[kk.1,kk.2.1,kk.2.2.1];exact L1 p2 p0)
  |exact⟨by unfold zlI;omega,by unfold zlI;omega,hp.r5,by omega⟩
  |(show aV _ _=true;kernel_rfl)
  |exact⟨Zk,Zk⟩
  |exact Zk
  |done
namespace Zd2
structure aP where
 duC:aa->aa->aa->Int->Int->aa
 duU:aa->aa->aa->Int->Int->aa
 duE:aa->aa->aa->Int->Int->aa
 rpL:Int->aa->Int->Int->aa
 zlI:aa->Int
 delL:aa->Int->Int->aa
 mapB:aa->Int->Bool
 kuC:aa->aa->Int->aa
 kuU:aa->aa->Int->aa
 kuE:aa->Int->aa
 rpB:Int->aa->Int->Int->Bool
abbrev F0:aP:=⟨duC,duU,duE,rpL,zlI,delL,mapB,kuC,kuU,kuE,rpB⟩
def ct (F:aP):CT:=fun f ds=>match f,ds with
 |275,[.one (.v (.int Za n)),.one (.s 2 rs),.agg [.v (.int Za a),.v (.int Za l)]]=>some (fun _=>0<=n/\n<=1099511627776/\Rw [tI,tI] rs/\rs.length<=1073741824,[.one (.s 2 (F.rpL n rs a l)),.k (F.rpB n rs a l)])
 |276,[.ptr [.s 1 a0,.s 1 a1,.s 2 a2,.v (.int Za a3),.s 1 a4,.s 2 a5,.s 3 a6,.s 3 a7,.s 4 a8,.s 1 a9,.s 1 aA,.s 1 aB,.v (.int Za aC),.s 3 aD,.v (.int Za aE),.v (.int Za aF),.v (.int Za aG),.v (.int Za aH),.v (.bool aI),.v (.int Za aJ),.v (.int Za aK),.s 1 aL,.v (.int Za aM),.v (.int Za aN)]]=>some (fun _=>a2.length<=1073741824,[.j (F.zlI a2)])
 |_,_=>none
theorem aj:aT (ct F0):=by
 intro f ds pre res h hp;unfold ct at h;split at h<;>cases h
 exact rC hp;exact rH hp
def pt (F:aP):PT:=fun f=>match f with
 | 81=>some fun ds=>match ds with
   |[.mp [.own (.s 1 a0),.own (.s 1 a1),.own (.s 2 a2),.own (.v (.int Za a3)),.own (.s 1 a4),.own (.s 2 a5),.own (.s 3 a6),.own (.s 3 a7),.own (.s 4 a8),.own (.s 1 a9),.own (.s 1 aA),.own (.s 1 aB),.own (.v (.int Za aC)),.own (.s 3 aD),.own (.v (.int Za aE)),.own (.v (.int Za aF)),.own (.v (.int Za aG)),.own (.v (.int Za aH)),.own (.v (.bool aI)),.own (.v (.int Za aJ)),.own (.v (.int Za aK)),.own (.s 1 aL),.own (.v (.int Za aM)),.own (.v (.int Za aN))],.agg [.v (.int Za t),.v (.int Za l)]]=>some (fun _=>iI a0 a1 a2 a4 a5 a6 a7 a8 a9 aA aB aD aL/\kerOk a0 a1 a2 a3 a4=true/\a3≠100000/\a5.length<=536870911/\0<=t/\0<=l/\t+l<=1000,[(zz (F.duC a0 a1 a2 t l) (F.duU a0 a1 a2 t l) (F.duE a0 a1 a2 t l) a3 a4 (F.rpL (F.zlI (F.duE a0 a1 a2 t l)) a5 t l) a6 a7 a8 a9 aA aB aC aD aE aF aG aH aI aJ aK aL aM aN)],[])
   |_=>none
 | 274=>some fun ds=>match ds with
   |[.mp [.own (.s 1 cs),.own (.s 1 us),.own (.s 2 es),.own (.v (.int Za c)),.own (.s 1 rs)],.one (.v (.int Za p))]=>some (fun _=>Rw [.sl [tI]] cs/\Rw [tB] us/\Rw [tI,tI] es/\Rw [tI] rs/\vM cs us es,[[.own (.s 1 (F.kuC cs es p)),.own (.s 1 (F.kuU us es p)),.own (.s 2 (F.kuE es p)),.own (.i c),.own (.s 1 rs)]],[.k (F.mapB es p)])
   |_=>none
 |_=>none
theorem gJ:pE (pt F0):=by
 intro f mk h ds pre outs res hm hp;unfold pt at h;split at h
 ·cases h;dsimp only at hm;split at hm
  ·cases hm;exact oA hp
  ·cases hm
 ·cases h;dsimp only at hm;split at hm
  ·cases hm;exact rE hp
  ·cases hm
 ·cases h
def ot (F:aP):OT:=fun f=>match f with
 | 246=>some fun ds=>match ds with
   |[.one (.s 3 es),.one (.v (.int Za i)),.one (.v (.int Za j))]=>some (fun _=>0<=i/\i<=j/\j<=es.length,[.one (.s 3 (F.delL es i j))])
   |_=>none
 |_=>none
theorem QR:zH Tryz.prog (ot F0):=by
 intro f mk h ds pre hs hm hp;unfold ot at h;split at h
 ·cases h;dsimp only at hm;split at hm
  ·cases hm;exact b8 hp
  ·cases hm
 ·cases h
abbrev B:cF:={Φ:=aP,F0:=F0,ct:=ct,hc:=aj,pt:=pt,hp:=gJ,ot:=ot,ho:=QR}
end Zd2
theorem qu {a0 a1 a2:aa}{a3:Int}{a4 a5 a6 a7 a8 a9 aA aB:aa}{aC:Int}{aD:aa}{aE aF aG aH:Int}{aI:Bool}{aJ aK:Int}{aL:aa}{aM aN i:Int}(hp:iI a0 a1 a2 a4 a5 a6 a7 a8 a9 aA aB aD aL/\kerOk a0 a1 a2 a3 a4=true/\a3≠100000/\a5.length<=536870911/\0<=i/\i<a6.length/\0<=ag a6 i 0/\ag a6 i 0<=31):jV 140 [.mp (zz a0 a1 a2 a3 a4 a5 a6 a7 a8 a9 aA aB aC aD aE aF aG aH aI aJ aK aL aM aN),.j i] [(zz (dsC a0 a1 a2 a6 i) (dsU a0 a1 a2 a6 i) (dsE a0 a1 a2 a6 i) a3 a4 (dsF a0 a1 a2 a5 a6 i) (dsS a6 i) a7 a8 a9 aA aB aC aD aE aF aG aH aI aJ aK aL aM aN)] []:=by
 obtain⟨hp,hk,hn,h5,i0,i1,g0,g1⟩:=hp;have km:=(pN hk).1;have c5:=hp.c5;have c6:=hp.c6;have c2:=hp.c2;have q6:=aO (es:=a6);have q2:=aO (es:=a2);have q5:=aO (es:=a5);have e1:bK .add Za i 1=i+1:=bh (by omega);have hs6:=hp.r6.scal rfl;have kl:=yw (es:=a2) (p:=ag a6 i 0);refine pb Zd2.B Tryz.func140 ?_
 exact Sj
theorem tV {a0 a1 a2:aa}{a3:Int}{a4 a5 a6 a7 a8 a9 aA aB:aa}{aC:Int}{aD:aa}{aE aF aG aH:Int}{aI:Bool}{aJ aK:Int}{aL:aa}{aM aN i:Int}(hp:iI a0 a1 a2 a4 a5 a6 a7 a8 a9 aA aB aD aL/\kerOk a0 a1 a2 a3 a4=true/\a3≠100000/\a5.length<=536870911/\0<=i/\i<a6.length/\0<=ag a6 i 0/\ag a6 i 0<=31):jV 216 [.mp (zz a0 a1 a2 a3 a4 a5 a6 a7 a8 a9 aA aB aC aD aE aF aG aH aI aJ aK aL aM aN),.j i] [(zz (dsC a0 a1 a2 a6 i) (dsU a0 a1 a2 a6 i) (dsE a0 a1 a2 a6 i) a3 a4 (dsF a0 a1 a2 a5 a6 i) (dsS a6 i) a7 a8 a9 aA aB aC aD aE aF aG aH aI aJ aK aL aM aN)] []:=by
 obtain⟨hp,hk,hn,h5,i0,i1,g0,g1⟩:=hp;have km:=(pN hk).1;have c5:=hp.c5;have c6:=hp.c6;have c2:=hp.c2;have q6:=aO (es:=a6);have q2:=aO (es:=a2);have q5:=aO (es:=a5);have e1:bK .add Za i 1=i+1:=bh (by omega);have hs6:=hp.r6.scal rfl;have kl:=yw (es:=a2) (p:=ag a6 i 0);refine pb Zd2.B Tryz.func216 ?_
 exact Sj
end Go.V