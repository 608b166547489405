/- Contracts. -/
import Derived.Test.YtbedjnlfdopeeaaGreatXLayOu
set_option linter.all false
open Go
open And renaming intro->Zb
open Int renaming toNat_of_nonneg->Zt
open IntKind renaming i64->Za
open List renaming length_cons->Zq
open True renaming intro->Zk
namespace Go.V
open Go Go.Proofs
set_option maxRecDepth 1000000
set_option maxHeartbeats 8000000
namespace Pa0
structure aP where
 peM:aa->Int->Int
 peF:aa->Int->Int
abbrev F0:aP:=⟨peM,peF⟩
def ct (F:aP):CT:=fun f ds=>match f,ds with
 |82,[.agg [.s 2 es],.one (.v (.int Za p))]=>some (fun _=>Rw [tI,tI] es,[.agg [.i (F.peM es p),.i (F.peF es p)]])
 |_,_=>none
theorem aj:aT (ct F0):=by
 intro f ds pre res h hp;unfold ct at h;split at h<;>cases h
 exact fh hp
abbrev B:cF:=tb aj
end Pa0
theorem lG {a0 a1 a2:aa}{a3:Int}{a4:aa}{p:Int}(hp:Rw [tI,tI] a2):ap 230 [.agg [.s 1 a0,.s 1 a1,.s 2 a2,.i a3,.s 1 a4],.j p] [.k (mapB a2 p)]:=by
 refine cb Pa0.B Tryz.func230 ?_
 intro O r F hO hr hF;cbv
 repeat' first|apply Zb|(apply bu<;>intro hb<;>cbv)
 all_goals(subst hO hr hF;(try simp only[nc]at*);(try simp only[ak,SS,sa,az]at*))
 all_goals first|(show(_:List DV)=_;refine ai ?_;unfold mapB;rw[ye];done)|exact hp|done
namespace Pa1
structure aP where
 fpg:aa->Int->aa
 mapB:aa->Int->Bool
 rhB:aa->Int->Bool
 peM:aa->Int->Int
 peF:aa->Int->Int
 mshB:Int->Int->Int->Int->Int->Int->Bool
abbrev F0:aP:=⟨fpg,mapB,rhB,peM,peF,mshB⟩
def ct (F:aP):CT:=fun f ds=>match f,ds with
 |229,[.agg [.s 1 a0,.s 1 a1,.s 2 a2,.v (.int Za a3),.s 1 a4,.s 2 a5,.s 3 a6,.s 3 a7,.s 4 a8,.s 1 a9,.s 1 aA,.s 1 aB,.v (.int Za aC),.s 3 aD,.v (.int Za aE),.v (.int Za aF),.v (.int Za aG),.v (.int Za aH),.v (.bool aI),.v (.int Za aJ),.v (.int Za aK),.s 1 aL,.v (.int Za aM),.v (.int Za aN)],.one (.v (.int Za pg))]=>some (fun _=>Rw [tI,tI] a2/\a2.length<=1099511627776,[.one (.s 1 (F.fpg a2 pg))])
 |230,[.agg [.s 1 a0,.s 1 a1,.s 2 a2,.v (.int Za a3),.s 1 a4],.one (.v (.int Za p))]=>some (fun _=>Rw [tI,tI] a2,[.k (F.mapB a2 p)])
 |231,[.one (.s 2 os),.one (.v (.int Za id))]=>some (fun _=>Rw [tI,tI] os/\os.length<=1099511627776,[.k (F.rhB os id)])
 |82,[.agg [.s 2 es],.one (.v (.int Za p))]=>some (fun _=>Rw [tI,tI] es,[.agg [.i (F.peM es p),.i (F.peF es p)]])
 |232,[.agg [.v (.int Za p1),.v (.int Za k1),.v (.int Za b1)],.agg [.v (.int Za p2),.v (.int Za k2),.v (.int Za b2)]]=>some (fun _=>True,[.k (F.mshB p1 k1 b1 p2 k2 b2)])
 |_,_=>none
theorem aj:aT (ct F0):=by
 intro f ds pre res h hp;unfold ct at h;split at h<;>cases h
 exact mC hp;exact lG hp;exact qi hp;exact fh hp;exact qg hp
abbrev B:cF:=tb aj
end Pa1
theorem sQ {a0 a1 a2:aa}{a3:Int}{a4 a5 a6 a7 a8 a9 aA aB:aa}{aC:Int}{aD:aa}{aE aF aG aH:Int}{aI:Bool}{aJ aK:Int}{aL:aa}{aM aN:Int}(hp:zx a6 a7 a8 a9 aA aB aD/\layOk a6 a7=true/\Rw [tI,tI] a2/\a2.length<=1099511627776/\Rw [tI,tI] a5/\a5.length<=1099511627776):ap 127 [.agg (iF a0 a1 a2 a3 a4 a5 a6 a7 a8 a9 aA aB aC aD aE aF aG aH aI aJ aK aL aM aN)] [.k (pgI a2 a5 a6 a7)]:=by
 obtain⟨N,hlay,hew,hel,hfw,hfl⟩:=hp;have hsw:=N.sw;have hlw:=N.lw;have hsl:=N.sl;have hll:=N.ll;have F:=M1 hlay;have lgF:∀ j:Int,0<=j->j<a7.length->0<=ag a7 j 0/\1<=ag a7 j 1/\ag a7 j 0+ag a7 j 1<=32:=fun j h0 h1=>by
  have t:=iu (F.l j.toNat (by omega));rw[Zt h0]at t;have b:=gV t.1;omega
 refine cb Pa1.B Tryz.func127 ?_
 intro O r F hO hr hF;cbv
 repeat' first|apply Zb|(apply bu<;>intro hb<;>cbv)|(refine⟨[1,18,19,20],[1],Int,fun i=>[.reg 20 (.j i)],fun i=>0<=i/\i<=(a6.length:Int)/\upto (sv a6) i,fun i=>a6.length-i.toNat,⟨0,?_,?_⟩,?_⟩;rotate_left;(focus (cbv;done));intro i hi;replace hi:0<=i/\i<=(a6.length:Int)/\upto (sv a6) i:=hi;obtain⟨i0,i1,i2⟩:=hi;cbv)|(refine⟨[1,5,42,43,44],[1,40],Int×aa,fun s_=>match s_ with|(q,m)=>[.reg 44 (.j q),.leaf 40 0 ⟨0,0,none,.own (.m true m)⟩],fun s_=>match s_ with|(q,m)=>0<=q/\q<=(a6.length:Int)/\sD m (iH a6 q.toNat),fun s_=>match s_ with|(q,m)=>a6.length-q.toNat,⟨(0,[]),?_,?_⟩,?_⟩;rotate_left;(focus (cbv;done));intro s_ hq;obtain⟨q,m⟩:=s_;replace hq:0<=q/\q<=(a6.length:Int)/\sD m (iH a6 q.toNat):=hq;obtain⟨q0,q1,q2⟩:=hq;cbv)|(refine⟨[1,5,53,54,55],[1,40],Int×aa,fun s_=>match s_ with|(j,m1)=>[.reg 55 (.j j),.leaf 40 0 ⟨0,0,none,.own (.m true m1)⟩],fun s_=>match s_ with|(j,m1)=>0<=j/\j<=(a7.length:Int)/\Oj a2 a6 a7 j m1,fun s_=>match s_ with|(j,m1)=>a7.length-j.toNat,⟨(0,m),?_,?_⟩,?_⟩;rotate_left;(focus (cbv;done));intro s_ hj;obtain⟨j,m1⟩:=s_;replace hj:0<=j/\j<=(a7.length:Int)/\Oj a2 a6 a7 j m1:=hj;obtain⟨j0,j1,j2⟩:=hj;cbv)|(refine⟨[1,5,9,10,53,54,55],[1,40,9],Int×aa,fun s_=>match s_ with|(p,m2)=>[.reg 10 (.j p),.leaf 40 0 ⟨0,0,none,.own (.m true m2)⟩],fun s_=>match s_ with|(p,m2)=>ag a7 j 0<=p/\p<=ag a7 j 0+ag a7 j 1/\Oi a2 a6 a7 j (p-ag a7 j 0) m2,fun s_=>match s_ with|(p,m2)=>(ag a7 j 0+ag a7 j 1-p).toNat,⟨(O.gi a7 j 0,m1),?_,?_⟩,?_⟩;rotate_left;(focus (cbv;done));intro s_ hp;obtain⟨p,m2⟩:=s_;replace hp:ag a7 j 0<=p/\p<=ag a7 j 0+ag a7 j 1/\Oi a2 a6 a7 j (p-ag a7 j 0) m2:=hp;obtain⟨p0,p1,p2⟩:=hp;cbv)|(refine⟨[1,5,98,99],[1,40],Int,fun e=>[.reg 99 (.j e)],fun e=>0<=e/\e<=(a2.length:Int)/\upto (wV a2 a5 a6 a7) e,fun e=>a2.length-e.toNat,⟨0,?_,?_⟩,?_⟩;rotate_left;(focus (cbv;done));intro e he;replace he:0<=e/\e<=(a2.length:Int)/\upto (wV a2 a5 a6 a7) e:=he;obtain⟨e0,e1,e2⟩:=he;cbv)|(refine⟨[1,122],[1],List Int,fun vs=>[.reg 122 (.one (.it m1 vs))],fun vs=>True/\∀ k∈vs,k<(a2.length:Int),fun vs=>m1.length-vs.length,⟨[],?_,?_⟩,?_⟩;rotate_left;(focus (cbv;done));intro vs rI;replace rI:True/\∀ k∈vs,k<(a2.length:Int):=rI;obtain⟨vs0,vs1⟩:=rI;cbv)|(refine⟨[1,136,137,138],[1],Int,fun u=>[.reg 138 (.j u)],fun u=>0<=u/\u<=(a6.length:Int)/\upto (HN a2 a6) u,fun u=>a6.length-u.toNat,⟨0,?_,?_⟩,?_⟩;rotate_left;(focus (cbv;done));intro u hu;replace hu:0<=u/\u<=(a6.length:Int)/\upto (HN a2 a6) u:=hu;obtain⟨u0,u1,u2⟩:=hu;cbv)|(refine⟨[1,14,136,137,138,146,147,148],[1,14],Int,fun v=>[.reg 148 (.j v)],fun v=>0<=v/\v<=u/\upto (EH a2 a6 u) v,fun v=>(u-v).toNat,⟨0,?_,?_⟩,?_⟩;rotate_left;(focus (cbv;done));intro v hv;replace hv:0<=v/\v<=u/\upto (EH a2 a6 u) v:=hv;obtain⟨v0,v1,v2⟩:=hv;cbv)|(refine ab (O.ar .add Za p 1,O.mu m2 p (.v (.bool true))) ?_ ?_ ?_;focus (cbv;done))|(refine ab (O.ar .add Za j 1,m2) ?_ ?_ ?_;focus (cbv;done))|(refine ab (O.ar .add Za q 1,O.mu m (O.gi a6 q 0) (.v (.bool true))) ?_ ?_ ?_;focus (cbv;done))|(refine ab (O.ar .add Za v 1) ?_ ?_ ?_;focus (cbv;done))|(refine ab (O.ar .add Za u 1) ?_ ?_ ?_;focus (cbv;done))|(refine ab (O.ar .add Za e 1) ?_ ?_ ?_;focus (cbv;done))|(refine ab (O.ar .add Za i 1) ?_ ?_ ?_;focus (cbv;done))|(refine ab (kk::vs) ?_ ?_ ?_;focus (cbv;done))|((intro(kk:Int) (hkk:O.pr _);cbv))|((intro(hkk:O.pr _);cbv))
 all_goals(subst hO hr hF;(try simp only[nc]at*);(try simp only[ak,SS,sa,az]at*);(try rw[cy (by omega) (by omega)]);(try have zi:=wK i0 (by omega));(try simp only[zi]at*);(try have zj:=wK j0 (by omega));(try simp only[zj]at*);(try have lf:=lgF j j0 (by assumption));(try have zl:bK .add Za (ag a7 j 0) (ag a7 j 1)=ag a7 j 0+ag a7 j 1:=bh (by omega));(try simp only[zl]at*);(try have zp:bK .add Za p 1=p+1:=bh (by omega));(try simp only[zp]at*);(try have zv:bK .add Za v 1=v+1:=bh (by omega));(try simp only[zv]at*);(try simp only[QT (Np j2 j1 (by assumption))]at*);(try simp only[vp]at*);(try have tl:(List.take u.toNat a6).length=u.toNat:=by(rw[List.length_take];omega));(try have hwt:=Rw.take hsw u.toNat);(try simp only[se (es:=a6) (n:=u.toNat) (i:=v) (by omega)]at*))
 all_goals first
  | (show(_:List DV)=_
     first
      |(refine ai ?_;symm;exact QZ i0 (by assumption) (DK (by assumption) (by assumption)))
      |(refine ai ?_;symm;exact KS j0 (by assumption) (Kx (DK (by assumption) (by assumption))))
      |(refine ai ?_;symm;exact KS j0 (by assumption) (Q3 p0 (by assumption) (by omega)))
      |(refine ai ?_;symm;exact KT e0 (by assumption) (J8 (by assumption)))
      |(refine ai ?_;symm;exact KT e0 (by assumption) (J9 (by assumption)))
      |(refine ai ?_;symm;exact Q0 (QN (((Np j2 j1 (by assumption)).k _).1 hkk.1) (by assumption)))
      |(refine ai ?_;symm;exact Q1 u0 (by assumption) (Ui v0 (by omega) (by assumption) (by assumption)))
      |(refine ai ?_;symm;exact Up i2 (by omega) j2.ok (by omega) e2 (by omega) (Un (Np j2 j1 (by assumption)) vs1 hkk) u2 (by omega))
      |done)
  |omega
  |exact eF
  |(show aV _ _=true;kernel_rfl)
  |exact⟨hew,hel⟩
  |exact⟨hfw,hfl⟩
  |exact bC
  |exact aW i2 (DL (by omega))
  |exact aW i2 (DN (by assumption))
  |(rw[kI q0];exact GI q2)
  |exact QS
  |exact Uq q2 q1 (by omega)
  |exact Q2 j2 (DL (by omega))
  |exact Q2 j2 (DN (by assumption))
  |exact Q4 p2 p0 (by omega)
  |exact Q5 p2 j0 (by omega) p1 (by omega)
  |exact aW e2 (O9 (by assumption) (by assumption))
  |exact Sf vs1 (by assumption)
  |exact fun k hk=>by cases hk
  |(have q:=hkk.2;simp only[Zq];omega)
  |exact aW v2 (Qu (by assumption))
  |exact aW v2 (Qv (by assumption))
  |exact aW u2 (Uj v2 (by omega) u0)
  |done
namespace Pa2
structure aP where
 fpg:aa->Int->aa
 hasB:aa->Int->Bool
 rhB:aa->Int->Bool
abbrev F0:aP:=⟨fpg,hasB,rhB⟩
def ct (F:aP):CT:=fun f ds=>match f,ds with
 |262,[.agg [.s 1 a0,.s 1 a1,.s 2 a2,.v (.int Za a3),.s 1 a4,.s 2 a5,.s 3 a6,.s 3 a7,.s 4 a8,.s 1 a9,.s 1 aA,.s 1 aB,.v (.int Za aC),.s 3 aD,.v (.int Za aE),.v (.int Za aF),.v (.int Za aG),.v (.int Za aH),.v (.bool aI),.v (.int Za aJ),.v (.int Za aK),.s 1 aL,.v (.int Za aM),.v (.int Za aN)],.one (.v (.int Za pg))]=>some (fun _=>Rw [tI,tI] a2/\a2.length<=1099511627776,[.one (.s 1 (F.fpg a2 pg))])
 |260,[.one (.s 1 l),.one (.v (.int Za x))]=>some (fun _=>Rw [tI] l,[.k (F.hasB l x)])
 |263,[.one (.s 2 os),.one (.v (.int Za id))]=>some (fun _=>Rw [tI,tI] os/\os.length<=1099511627776,[.k (F.rhB os id)])
 |_,_=>none
theorem aj:aT (ct F0):=by
 intro f ds pre res h hp;unfold ct at h;split at h<;>cases h
 exact hJ hp;exact fw hp;exact rB hp
abbrev B:cF:=tb aj
end Pa2
theorem rG {a0 a1 a2:aa}{a3:Int}{a4 a5 a6 a7 a8 a9 aA aB:aa}{aC:Int}{aD:aa}{aE aF aG aH:Int}{aI:Bool}{aJ aK:Int}{aL:aa}{aM aN:Int}(hp:zx a6 a7 a8 a9 aA aB aD/\layOk a6 a7=true/\Rw [tI,tI] a2/\a2.length<=1099511627776/\Rw [tI,tI] a5/\a5.length<=1099511627776):ap 167 [.agg (iF a0 a1 a2 a3 a4 a5 a6 a7 a8 a9 aA aB aC aD aE aF aG aH aI aJ aK aL aM aN)] [.k (pgS a2 a5 a6 a7)]:=by
 obtain⟨N,hlay,hew,hel,hfw,hfl⟩:=hp;have hsw:=N.sw;have hlw:=N.lw;have hsl:=N.sl;have hll:=N.ll;have F:=M1 hlay;have lgF:∀ j:Int,0<=j->j<a7.length->0<=ag a7 j 0/\1<=ag a7 j 1/\ag a7 j 0+ag a7 j 1<=32:=fun j h0 h1=>by
  have t:=iu (F.l j.toNat (by omega));rw[Zt h0]at t;have b:=gV t.1;omega
 refine cb Pa2.B Tryz.func167 ?_
 intro O r F hO hr hF;cbv
 repeat' first|apply Zb|(apply bu<;>intro hb<;>cbv)|(refine⟨[1,3,4,5,6],[1,3,5],Int×aa,fun s_=>match s_ with|(i,o)=>[.reg 6 (.j i),.reg 5 (.one (.vw 5 0 0 0 (O.ln o))),.leaf 5 0 ⟨0,0,none,.own (.s 1 o)⟩],fun s_=>match s_ with|(i,o)=>0<=i/\i<=(a6.length:Int)/\LB a6 i o,fun s_=>match s_ with|(i,o)=>a6.length-i.toNat,⟨(0,[]),?_,?_⟩,?_⟩;rotate_left;(focus (cbv;done));intro s_ hi;obtain⟨i,o⟩:=s_;replace hi:0<=i/\i<=(a6.length:Int)/\LB a6 i o:=hi;obtain⟨i0,i1,i2⟩:=hi;cbv)|(refine⟨[1,3,4,5,7],[1,3,5],Int×aa,fun s_=>match s_ with|(j,o1)=>[.reg 7 (.j j),.reg 5 (.one (.vw 5 0 0 0 (O.ln o1))),.leaf 5 0 ⟨0,0,none,.own (.s 1 o1)⟩],fun s_=>match s_ with|(j,o1)=>0<=j/\j<=(a7.length:Int)/\HH a2 a6 a7 j o1,fun s_=>match s_ with|(j,o1)=>a7.length-j.toNat,⟨(0,o),?_,?_⟩,?_⟩;rotate_left;(focus (cbv;done));intro s_ hj;obtain⟨j,o1⟩:=s_;replace hj:0<=j/\j<=(a7.length:Int)/\HH a2 a6 a7 j o1:=hj;obtain⟨j0,j1,j2⟩:=hj;cbv)|(refine⟨[1,3,4,5,7,8],[1,3,5],Int×aa,fun s_=>match s_ with|(k,o2)=>[.reg 8 (.j k),.reg 5 (.one (.vw 5 0 0 0 (O.ln o2))),.leaf 5 0 ⟨0,0,none,.own (.s 1 o2)⟩],fun s_=>match s_ with|(k,o2)=>0<=k/\k<=ag a7 j 1/\LA a2 a6 a7 j k o2,fun s_=>match s_ with|(k,o2)=>(ag a7 j 1-k).toNat,⟨(0,o1),?_,?_⟩,?_⟩;rotate_left;(focus (cbv;done));intro s_ hk;obtain⟨k,o2⟩:=s_;replace hk:0<=k/\k<=ag a7 j 1/\LA a2 a6 a7 j k o2:=hk;obtain⟨k0,k1,k2⟩:=hk;cbv)|(refine⟨[1,3,4,5,10],[1,3,5],Int,fun t=>[.reg 10 (.j t)],fun t=>0<=t/\t<=(o1.length:Int)/\upto (fun t=>decide (ag o1 t 0<a2.length)) t,fun t=>o1.length-t.toNat,⟨0,?_,?_⟩,?_⟩;rotate_left;(focus (cbv;done));intro t ht;replace ht:0<=t/\t<=(o1.length:Int)/\upto (fun t=>decide (ag o1 t 0<a2.length)) t:=ht;obtain⟨t0,t1,t2⟩:=ht;cbv)|(refine⟨[1,3,4,5,11],[1,3,5],Int,fun e=>[.reg 11 (.j e)],fun e=>0<=e/\e<=(a2.length:Int)/\upto (wV a2 a5 a6 a7) e,fun e=>a2.length-e.toNat,⟨0,?_,?_⟩,?_⟩;rotate_left;(focus (cbv;done));intro e he;replace he:0<=e/\e<=(a2.length:Int)/\upto (wV a2 a5 a6 a7) e:=he;obtain⟨e0,e1,e2⟩:=he;cbv)|(refine ab (O.ar .add Za k 1,O.cat o2 (O.sub [[.i (O.ar .add Za (O.gi a7 j 0) k)]] 0 (O.ln [[.i (O.ar .add Za (O.gi a7 j 0) k)]]))) ?_ ?_ ?_;focus (cbv;done))|(refine ab (O.ar .add Za j 1,o2) ?_ ?_ ?_;focus (cbv;done))|(refine ab (O.ar .add Za e 1) ?_ ?_ ?_;focus (cbv;done))|(refine ab (O.ar .add Za t 1) ?_ ?_ ?_;focus (cbv;done))|(refine ab (O.ar .add Za i 1,O.cat o (O.sub [[.i (O.gi a6 i 0)]] 0 (O.ln [[.i (O.gi a6 i 0)]]))) ?_ ?_ ?_;focus (cbv;done))
 all_goals(subst hO hr hF;(try simp only[nc]at*);(try simp only[ak,SS,sa,az]at*);(try rw[cy (by omega) (by omega)]);(try have zi:=wK i0 (by omega));(try simp only[zi]at*);(try have zj:=wK j0 (by omega));(try simp only[zj]at*);(try have lf:=lgF j j0 (by assumption));(try have z6:bK .add Za k 1=k+1:=bh (by omega));(try simp only[z6]at*);(try have z5:bK .add Za (ag a7 j 0) k=ag a7 j 0+k:=bh (by omega));(try simp only[z5]at*);(try have w1:=UD (by assumption));(try have w2:=Ux k2 (by omega));(try have w3:=Rm hlay j2 j1 (by assumption) hsl hll);(try simp only[o6 t0]at*);(try have w4:=w3.1);(try unfold maxLen at w4);(try have z7:bK .add Za t 1=t+1:=bh (by omega));(try simp only[z7]at*);(try simp only[UA j2 j1 (by assumption)]at*);(try simp only[Qy e0 (by assumption)]at*))
 all_goals first
  | (show(_:List DV)=_
     first
      |(refine ai ?_;symm;exact Q7 i0 (by assumption) (DK (by assumption) (by assumption)))
      |(refine ai ?_;symm;exact KU j0 (by assumption) (Kx (DK (by assumption) (by assumption))))
      |(refine ai ?_;symm;exact KU j0 (by assumption) (Ky k0 (by assumption) (by omega)))
      |(refine ai ?_;symm;exact Q8 (Uz j2 j1 (by assumption) t0 (by assumption) (by assumption)))
      |(refine ai ?_;symm;exact KV e0 (by assumption) (J8 (by assumption)))
      |(refine ai ?_;symm;exact KV e0 (by assumption) (L2 (by assumption) (by assumption)))
      |(refine ai ?_;symm;exact Ur i2.ok (by omega) j2.ok (by omega) e2 (by omega) (UB j2 j1 (by assumption) t2 (by omega)))
      |done)
  |omega
  |exact eF
  |(show aV _ _=true;kernel_rfl)
  |exact⟨hew,hel⟩
  |exact⟨hfw,hfl⟩
  |exact xA w3 t0 (by assumption)
  |(constructor<;>(simp only[Zq,List.length_nil];omega))
  |exact K0 i2 i0 (DL (by omega))
  |exact K0 i2 i0 (DN (by assumption))
  |exact UC
  |exact Uy i2 i1 (by omega)
  |exact Rk j2 (DL (by omega))
  |exact Rk j2 (DN (by assumption))
  |exact Rl k2 k0 (by omega)
  |exact Rn k2 j0 (by omega) (by omega) k1 (by omega)
  |exact bC
  |exact aW t2 (aa0 (by assumption))
  |exact aW e2 (Pb (by assumption) (by assumption))
  |exact⟨Zk,Zk⟩
  |done
namespace Pa3
structure aP where
 fpg:aa->Int->aa
 spI:aa->Int->Int
 mshB:Int->Int->Int->Int->Int->Int->Bool
abbrev F0:aP:=⟨fpg,spI,mshB⟩
def ct (F:aP):CT:=fun f ds=>match f,ds with
 |262,[.agg [.s 1 a0,.s 1 a1,.s 2 a2,.v (.int Za a3),.s 1 a4,.s 2 a5,.s 3 a6,.s 3 a7,.s 4 a8,.s 1 a9,.s 1 aA,.s 1 aB,.v (.int Za aC),.s 3 aD,.v (.int Za aE),.v (.int Za aF),.v (.int Za aG),.v (.int Za aH),.v (.bool aI),.v (.int Za aJ),.v (.int Za aK),.s 1 aL,.v (.int Za aM),.v (.int Za aN)],.one (.v (.int Za pg))]=>some (fun _=>Rw [tI,tI] a2/\a2.length<=1099511627776,[.one (.s 1 (F.fpg a2 pg))])
 |176,[.agg [.s 1 a0,.s 1 a1,.s 2 a2,.v (.int Za a3),.s 1 a4,.s 2 a5,.s 3 a6,.s 3 a7,.s 4 a8,.s 1 a9,.s 1 aA,.s 1 aB,.v (.int Za aC),.s 3 aD,.v (.int Za aE),.v (.int Za aF),.v (.int Za aG),.v (.int Za aH),.v (.bool aI),.v (.int Za aJ),.v (.int Za aK),.s 1 aL,.v (.int Za aM),.v (.int Za aN)],.one (.v (.int Za pg))]=>some (fun _=>Rw [tI,tI,tI] a6/\a6.length<=1099511627776,[.j (F.spI a6 pg)])
 |264,[.agg [.v (.int Za p1),.v (.int Za k1),.v (.int Za b1)],.agg [.v (.int Za p2),.v (.int Za k2),.v (.int Za b2)]]=>some (fun _=>True,[.k (F.mshB p1 k1 b1 p2 k2 b2)])
 |_,_=>none
theorem aj:aT (ct F0):=by
 intro f ds pre res h hp;unfold ct at h;split at h<;>cases h
 exact hJ hp;exact io hp;exact rz hp
abbrev B:cF:=tb aj
end Pa3
theorem oQ {a0 a1 a2:aa}{a3:Int}{a4 a5 a6 a7 a8 a9 aA aB:aa}{aC:Int}{aD:aa}{aE aF aG aH:Int}{aI:Bool}{aJ aK:Int}{aL:aa}{aM aN:Int}(hp:zx a6 a7 a8 a9 aA aB aD/\Rw [tI,tI] a2/\a2.length<=1099511627776):ap 168 [.agg (iF a0 a1 a2 a3 a4 a5 a6 a7 a8 a9 aA aB aC aD aE aF aG aH aI aJ aK aL aM aN)] [.k (smS a2 a6)]:=by
 obtain⟨N,hew,hel⟩:=hp;have hsw:=N.sw;have hsl:=N.sl;have fr:=fun p=>Ma (es:=a2) (p:=p) hel
 refine cb Pa3.B Tryz.func168 ?_
 intro O r F hO hr hF;cbv
 repeat' first|apply Zb|(apply bu<;>intro hb<;>cbv)|(refine⟨[1,3],[1],Int,fun i=>[.reg 3 (.j i)],fun i=>0<=i/\i<=(a6.length:Int)/\upto (msA a2 a6) i,fun i=>a6.length-i.toNat,⟨0,?_,?_⟩,?_⟩;rotate_left;(focus (cbv;done));intro i hi;replace hi:0<=i/\i<=(a6.length:Int)/\upto (msA a2 a6) i:=hi;obtain⟨i0,i1,i2⟩:=hi;cbv)|(refine⟨[1,3,4,5],[1,4],Int,fun k=>[.reg 5 (.j k)],fun k=>0<=k/\k<=((fpg a2 (ag a6 i 0)).length:Int)/\upto (Gj a2 a6 i) k,fun k=>(fpg a2 (ag a6 i 0)).length-k.toNat,⟨0,?_,?_⟩,?_⟩;rotate_left;(focus (cbv;done));intro k hk;replace hk:0<=k/\k<=((fpg a2 (ag a6 i 0)).length:Int)/\upto (Gj a2 a6 i) k:=hk;obtain⟨k0,k1,k2⟩:=hk;cbv)|(refine ab (O.ar .add Za k 1) ?_ ?_ ?_;focus (cbv;done))|(refine ab (O.ar .add Za i 1) ?_ ?_ ?_;focus (cbv;done))
 all_goals(subst hO hr hF;(try simp only[nc]at*);(try simp only[ak,SS,sa,az]at*);(try rw[cy (by omega) (by omega)]);(try simp only[o6 k0]at*);(try have w1:=fr (ag a6 i 0));(try have w2:=w1.1);(try have w3:=w1.2);(try have z6:bK .add Za k 1=k+1:=bh (by omega));(try simp only[z6]at*);(try have w4:=fun h=>RY (sp:=a6) (p:=ag (fpg a2 (ag a6 i 0)) k 0) h))
 all_goals first
  | (show(_:List DV)=_
     first
      |(refine ai ?_;symm;exact bM (p:=msA a2 a6) i0 (by assumption) (QE k0 (by assumption) (by assumption) (by assumption)))
      |(refine ai ?_;symm;exact bM (p:=msA a2 a6) i0 (by assumption) (QF k0 (by assumption) (by assumption) (by assumption)))
      |(refine ai ?_;symm;exact bD i2 (by omega))
      |done)
  |omega
  |exact eF
  |(show aV _ _=true;kernel_rfl)
  |exact⟨hew,hel⟩
  |exact⟨hsw,by omega⟩
  |exact xA w2 k0 (by assumption)
  |exact bC
  |exact aW k2 (Qw (by assumption))
  |exact aW k2 (Qx (by assumption) (by assumption))
  |exact aW i2 (bD k2 (by omega))
  |(have q:true=false:=(by assumption);cases q)
  |exact⟨Zk,Zk⟩
  |done
end Go.V