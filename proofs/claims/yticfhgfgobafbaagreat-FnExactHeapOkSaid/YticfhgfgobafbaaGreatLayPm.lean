/- Contracts. -/
import Derived.Test.YticfhgfgobafbaaGreatLayOm
set_option linter.all false
namespace Go.V
open Go Go.Proofs
set_option maxRecDepth 1000000
set_option maxHeartbeats 8000000
namespace Pa0
structure aO where
 peM:aa->Int->Int
 peF:aa->Int->Int
abbrev F0 :aO:=⟨peM,peF⟩
def ct (F:aO):CT:=fun f ds=>match f,ds with
 |158,[.agg [.s 2 es],.one (.v (.int .i64 p))]=>some (fun _=>Rw [tI,tI] es,[.agg [.i (F.peM es p),.i (F.peF es p)]])
 |_,_=>none
theorem aj :aR (ct F0):=by
 intro f ds pre res h hp;unfold ct at h;split at h<;>cases h
 exact ep hp
abbrev B :cD:=tb aj
end Pa0
theorem sk {a0 a1 a2:aa}{a3:Int}{a4:aa}{p:Int}(hp:Rw [tI,tI] a2):ao 156 [.agg [.s 1 a0,.s 1 a1,.s 2 a2,.i a3,.s 1 a4],.j p] [.k (mapB a2 p)]:=by
 refine cb Pa0.B Tryz.func156 ?_
 intro O r F hO hr hF;cbv
 repeat' first|apply And.intro|(apply bi<;>intro hb<;>cbv)
 all_goals(subst hO hr hF;(try simp only[nc]at*);(try simp only[ai,SS,sa,az]at*))
 all_goals first|(show(_:List DV)=_;refine ag ?_;unfold mapB;rw[uu];done)|exact hp|done
namespace Pa1
structure aO where
 fpg:aa->Int->aa
 mapB:aa->Int->Bool
 rhB:aa->Int->Bool
 peM:aa->Int->Int
 peF:aa->Int->Int
 mshB:Int->Int->Int->Int->Int->Int->Bool
abbrev F0 :aO:=⟨fpg,mapB,rhB,peM,peF,mshB⟩
def ct (F:aO):CT:=fun f ds=>match f,ds with
 |155,[.agg [.s 1 a0,.s 1 a1,.s 2 a2,.v (.int .i64 a3),.s 1 a4,.s 2 a5,.s 3 a6,.s 3 a7,.s 4 a8,.s 1 a9,.s 1 aA,.s 1 aB,.v (.int .i64 aC),.s 3 aD,.v (.int .i64 aE),.v (.int .i64 aF),.v (.int .i64 aG),.v (.int .i64 aH),.v (.bool aI),.v (.int .i64 aJ),.v (.int .i64 aK),.s 1 aL,.v (.int .i64 aM),.v (.int .i64 aN)],.one (.v (.int .i64 pg))]=>some (fun _=>Rw [tI,tI] a2/\a2.length<=1099511627776,[.one (.s 1 (F.fpg a2 pg))])
 |156,[.agg [.s 1 a0,.s 1 a1,.s 2 a2,.v (.int .i64 a3),.s 1 a4],.one (.v (.int .i64 p))]=>some (fun _=>Rw [tI,tI] a2,[.k (F.mapB a2 p)])
 |157,[.one (.s 2 os),.one (.v (.int .i64 id))]=>some (fun _=>Rw [tI,tI] os/\os.length<=1099511627776,[.k (F.rhB os id)])
 |158,[.agg [.s 2 es],.one (.v (.int .i64 p))]=>some (fun _=>Rw [tI,tI] es,[.agg [.i (F.peM es p),.i (F.peF es p)]])
 |159,[.agg [.v (.int .i64 p1),.v (.int .i64 k1),.v (.int .i64 b1)],.agg [.v (.int .i64 p2),.v (.int .i64 k2),.v (.int .i64 b2)]]=>some (fun _=>True,[.k (F.mshB p1 k1 b1 p2 k2 b2)])
 |_,_=>none
theorem aj :aR (ct F0):=by
 intro f ds pre res h hp;unfold ct at h;split at h<;>cases h
 exact kO hp;exact sk hp;exact nQ hp;exact ep hp;exact nO hp
abbrev B :cD:=tb aj
end Pa1
theorem pR {a0 a1 a2:aa}{a3:Int}{a4 a5 a6 a7 a8 a9 aA aB:aa}{aC:Int}{aD:aa}{aE aF aG aH:Int}{aI:Bool}{aJ aK:Int}{aL:aa}{aM aN:Int}(hp:jX a6 a7 a8 a9 aA aB aD/\layOk a6 a7=true/\Rw [tI,tI] a2/\a2.length<=1099511627776/\Rw [tI,tI] a5/\a5.length<=1099511627776):ao 80 [.agg (kH a0 a1 a2 a3 a4 a5 a6 a7 a8 a9 aA aB aC aD aE aF aG aH aI aJ aK aL aM aN)] [.k (pgI a2 a5 a6 a7)]:=by
 obtain⟨N,hlay,hew,hel,hfw,hfl⟩:=hp;have hsw:=N.sw;have hlw:=N.lw;have hsl:=N.sl;have hll:=N.ll;have F:=IM hlay;have lgF:∀ j:Int,0<=j->j<a7.length->0<=af a7 j 0/\1<=af a7 j 1/\af a7 j 0+af a7 j 1<=32:=fun j h0 h1=>by
  have t:=gn (F.l j.toNat (by omega));rw[Int.toNat_of_nonneg h0]at t;have b:=fJ t.1;omega
 refine cb Pa1.B Tryz.func80 ?_
 intro O r F hO hr hF;cbv
 repeat' first|apply And.intro|(apply bi<;>intro hb<;>cbv)|(refine⟨[1,18,19,20],[1],Int,fun i=>[.reg 20 (.j i)],fun i=>0<=i/\i<=(a6.length:Int)/\upto (pB a6) i,fun i=>a6.length-i.toNat,⟨0,?_,?_⟩,?_⟩;rotate_left;(focus (cbv;done));intro i hi;replace hi:0<=i/\i<=(a6.length:Int)/\upto (pB a6) i:=hi;obtain⟨i0,i1,i2⟩:=hi;cbv)|(refine⟨[1,5,42,43,44],[1,40],Int×aa,fun s_=>match s_ with|(q,m)=>[.reg 44 (.j q),.leaf 40 0 ⟨0,0,none,.own (.m true m)⟩],fun s_=>match s_ with|(q,m)=>0<=q/\q<=(a6.length:Int)/\pE m (gu a6 q.toNat),fun s_=>match s_ with|(q,m)=>a6.length-q.toNat,⟨(0,[]),?_,?_⟩,?_⟩;rotate_left;(focus (cbv;done));intro s_ hq;obtain⟨q,m⟩:=s_;replace hq:0<=q/\q<=(a6.length:Int)/\pE m (gu a6 q.toNat):=hq;obtain⟨q0,q1,q2⟩:=hq;cbv)|(refine⟨[1,5,53,54,55],[1,40],Int×aa,fun s_=>match s_ with|(j,m1)=>[.reg 55 (.j j),.leaf 40 0 ⟨0,0,none,.own (.m true m1)⟩],fun s_=>match s_ with|(j,m1)=>0<=j/\j<=(a7.length:Int)/\IH a2 a6 a7 j m1,fun s_=>match s_ with|(j,m1)=>a7.length-j.toNat,⟨(0,m),?_,?_⟩,?_⟩;rotate_left;(focus (cbv;done));intro s_ hj;obtain⟨j,m1⟩:=s_;replace hj:0<=j/\j<=(a7.length:Int)/\IH a2 a6 a7 j m1:=hj;obtain⟨j0,j1,j2⟩:=hj;cbv)|(refine⟨[1,5,9,10,53,54,55],[1,40,9],Int×aa,fun s_=>match s_ with|(p,m2)=>[.reg 10 (.j p),.leaf 40 0 ⟨0,0,none,.own (.m true m2)⟩],fun s_=>match s_ with|(p,m2)=>af a7 j 0<=p/\p<=af a7 j 0+af a7 j 1/\IG a2 a6 a7 j (p-af a7 j 0) m2,fun s_=>match s_ with|(p,m2)=>(af a7 j 0+af a7 j 1-p).toNat,⟨(O.gi a7 j 0,m1),?_,?_⟩,?_⟩;rotate_left;(focus (cbv;done));intro s_ hp;obtain⟨p,m2⟩:=s_;replace hp:af a7 j 0<=p/\p<=af a7 j 0+af a7 j 1/\IG a2 a6 a7 j (p-af a7 j 0) m2:=hp;obtain⟨p0,p1,p2⟩:=hp;cbv)|(refine⟨[1,5,98,99],[1,40],Int,fun e=>[.reg 99 (.j e)],fun e=>0<=e/\e<=(a2.length:Int)/\upto (tn a2 a5 a6 a7) e,fun e=>a2.length-e.toNat,⟨0,?_,?_⟩,?_⟩;rotate_left;(focus (cbv;done));intro e he;replace he:0<=e/\e<=(a2.length:Int)/\upto (tn a2 a5 a6 a7) e:=he;obtain⟨e0,e1,e2⟩:=he;cbv)|(refine⟨[1,122],[1],List Int,fun vs=>[.reg 122 (.one (.it m1 vs))],fun vs=>True/\∀ k∈vs,k<(a2.length:Int),fun vs=>m1.length-vs.length,⟨[],?_,?_⟩,?_⟩;rotate_left;(focus (cbv;done));intro vs oU;replace oU:True/\∀ k∈vs,k<(a2.length:Int):=oU;obtain⟨vs0,vs1⟩:=oU;cbv)|(refine⟨[1,136,137,138],[1],Int,fun u=>[.reg 138 (.j u)],fun u=>0<=u/\u<=(a6.length:Int)/\upto (Dp a2 a6) u,fun u=>a6.length-u.toNat,⟨0,?_,?_⟩,?_⟩;rotate_left;(focus (cbv;done));intro u hu;replace hu:0<=u/\u<=(a6.length:Int)/\upto (Dp a2 a6) u:=hu;obtain⟨u0,u1,u2⟩:=hu;cbv)|(refine⟨[1,14,136,137,138,146,147,148],[1,14],Int,fun v=>[.reg 148 (.j v)],fun v=>0<=v/\v<=u/\upto (AD a2 a6 u) v,fun v=>(u-v).toNat,⟨0,?_,?_⟩,?_⟩;rotate_left;(focus (cbv;done));intro v hv;replace hv:0<=v/\v<=u/\upto (AD a2 a6 u) v:=hv;obtain⟨v0,v1,v2⟩:=hv;cbv)|(refine ab (O.ar .add .i64 p 1,O.mu m2 p (.v (.bool true))) ?_ ?_ ?_;focus (cbv;done))|(refine ab (O.ar .add .i64 j 1,m2) ?_ ?_ ?_;focus (cbv;done))|(refine ab (O.ar .add .i64 q 1,O.mu m (O.gi a6 q 0) (.v (.bool true))) ?_ ?_ ?_;focus (cbv;done))|(refine ab (O.ar .add .i64 v 1) ?_ ?_ ?_;focus (cbv;done))|(refine ab (O.ar .add .i64 u 1) ?_ ?_ ?_;focus (cbv;done))|(refine ab (O.ar .add .i64 e 1) ?_ ?_ ?_;focus (cbv;done))|(refine ab (O.ar .add .i64 i 1) ?_ ?_ ?_;focus (cbv;done))|(refine ab (kk::vs) ?_ ?_ ?_;focus (cbv;done))|((intro(kk:Int) (hkk:O.pr _);cbv))|((intro(hkk:O.pr _);cbv))
 all_goals(subst hO hr hF;(try simp only[nc]at*);(try simp only[ai,SS,sa,az]at*);(try rw[cB (by omega) (by omega)]);(try have zi:=sY i0 (by omega));(try simp only[zi]at*);(try have zj:=sY j0 (by omega));(try simp only[zj]at*);(try have lf:=lgF j j0 (by assumption));(try have zl:bP .add .i64 (af a7 j 0) (af a7 j 1)=af a7 j 0+af a7 j 1:=bC (by omega));(try simp only[zl]at*);(try have zp:bP .add .i64 p 1=p+1:=bC (by omega));(try simp only[zp]at*);(try have zv:bP .add .i64 v 1=v+1:=bC (by omega));(try simp only[zv]at*);(try simp only[KG (H4 j2 j1 (by assumption))]at*);(try simp only[rN]at*);(try have tl:(List.take u.toNat a6).length=u.toNat:=by(rw[List.length_take];omega));(try have hwt:=Rw.take hsw u.toNat);(try simp only[pk (es:=a6) (n:=u.toNat) (i:=v) (by omega)]at*))
 all_goals first
  | (show(_:List DV)=_
     first
      |(refine ag ?_;symm;exact KM i0 (by assumption) (zH (by assumption) (by assumption)))
      |(refine ag ?_;symm;exact F7 j0 (by assumption) (FJ (zH (by assumption) (by assumption))))
      |(refine ag ?_;symm;exact F7 j0 (by assumption) (KQ p0 (by assumption) (by omega)))
      |(refine ag ?_;symm;exact F8 e0 (by assumption) (Fs (by assumption)))
      |(refine ag ?_;symm;exact F8 e0 (by assumption) (Ft (by assumption)))
      |(refine ag ?_;symm;exact KN (KB (((H4 j2 j1 (by assumption)).k _).1 hkk.1) (by assumption)))
      |(refine ag ?_;symm;exact KO u0 (by assumption) (MO v0 (by omega) (by assumption) (by assumption)))
      |(refine ag ?_;symm;exact M3 i2 (by omega) j2.ok (by omega) e2 (by omega) (M1 (H4 j2 j1 (by assumption)) vs1 hkk) u2 (by omega))
      |done)
  |omega
  |exact eZ
  |(show bz _ _=true;kernel_rfl)
  |exact⟨hew,hel⟩
  |exact⟨hfw,hfl⟩
  |exact aY
  |exact aP i2 (zI (by omega))
  |exact aP i2 (zJ (by assumption))
  |(rw[jv q0];exact Cq q2)
  |exact KF
  |exact M4 q2 q1 (by omega)
  |exact KP j2 (zI (by omega))
  |exact KP j2 (zJ (by assumption))
  |exact KR p2 p0 (by omega)
  |exact KS p2 j0 (by omega) p1 (by omega)
  |exact aP e2 (Jd (by assumption) (by assumption))
  |exact Lv vs1 (by assumption)
  |exact fun k hk=>by cases hk
  |(have q:=hkk.2;simp only[List.length_cons];omega)
  |exact aP v2 (Ka (by assumption))
  |exact aP v2 (Kb (by assumption))
  |exact aP u2 (MP v2 (by omega) u0)
  |done
namespace Pa2
structure aO where
 fpg:aa->Int->aa
 hasB:aa->Int->Bool
 rhB:aa->Int->Bool
abbrev F0 :aO:=⟨fpg,hasB,rhB⟩
def ct (F:aO):CT:=fun f ds=>match f,ds with
 |140,[.agg [.s 1 a0,.s 1 a1,.s 2 a2,.v (.int .i64 a3),.s 1 a4,.s 2 a5,.s 3 a6,.s 3 a7,.s 4 a8,.s 1 a9,.s 1 aA,.s 1 aB,.v (.int .i64 aC),.s 3 aD,.v (.int .i64 aE),.v (.int .i64 aF),.v (.int .i64 aG),.v (.int .i64 aH),.v (.bool aI),.v (.int .i64 aJ),.v (.int .i64 aK),.s 1 aL,.v (.int .i64 aM),.v (.int .i64 aN)],.one (.v (.int .i64 pg))]=>some (fun _=>Rw [tI,tI] a2/\a2.length<=1099511627776,[.one (.s 1 (F.fpg a2 pg))])
 |27,[.one (.s 1 l),.one (.v (.int .i64 x))]=>some (fun _=>Rw [tI] l,[.k (F.hasB l x)])
 |141,[.one (.s 2 os),.one (.v (.int .i64 id))]=>some (fun _=>Rw [tI,tI] os/\os.length<=1099511627776,[.k (F.rhB os id)])
 |_,_=>none
theorem aj :aR (ct F0):=by
 intro f ds pre res h hp;unfold ct at h;split at h<;>cases h
 exact fN hp;exact dO hp;exact oQ hp
abbrev B :cD:=tb aj
end Pa2
theorem oT {a0 a1 a2:aa}{a3:Int}{a4 a5 a6 a7 a8 a9 aA aB:aa}{aC:Int}{aD:aa}{aE aF aG aH:Int}{aI:Bool}{aJ aK:Int}{aL:aa}{aM aN:Int}(hp:jX a6 a7 a8 a9 aA aB aD/\layOk a6 a7=true/\Rw [tI,tI] a2/\a2.length<=1099511627776/\Rw [tI,tI] a5/\a5.length<=1099511627776):ao 66 [.agg (kH a0 a1 a2 a3 a4 a5 a6 a7 a8 a9 aA aB aC aD aE aF aG aH aI aJ aK aL aM aN)] [.k (pgS a2 a5 a6 a7)]:=by
 obtain⟨N,hlay,hew,hel,hfw,hfl⟩:=hp;have hsw:=N.sw;have hlw:=N.lw;have hsl:=N.sl;have hll:=N.ll;have F:=IM hlay;have lgF:∀ j:Int,0<=j->j<a7.length->0<=af a7 j 0/\1<=af a7 j 1/\af a7 j 0+af a7 j 1<=32:=fun j h0 h1=>by
  have t:=gn (F.l j.toNat (by omega));rw[Int.toNat_of_nonneg h0]at t;have b:=fJ t.1;omega
 refine cb Pa2.B Tryz.func66 ?_
 intro O r F hO hr hF;cbv
 repeat' first|apply And.intro|(apply bi<;>intro hb<;>cbv)|(refine⟨[1,3,4,5,6],[1,3,5],Int×aa,fun s_=>match s_ with|(i,o)=>[.reg 6 (.j i),.reg 5 (.one (.vw 5 0 0 0 (O.ln o))),.leaf 5 0 ⟨0,0,none,.own (.s 1 o)⟩],fun s_=>match s_ with|(i,o)=>0<=i/\i<=(a6.length:Int)/\Gz a6 i o,fun s_=>match s_ with|(i,o)=>a6.length-i.toNat,⟨(0,[]),?_,?_⟩,?_⟩;rotate_left;(focus (cbv;done));intro s_ hi;obtain⟨i,o⟩:=s_;replace hi:0<=i/\i<=(a6.length:Int)/\Gz a6 i o:=hi;obtain⟨i0,i1,i2⟩:=hi;cbv)|(refine⟨[1,3,4,5,7],[1,3,5],Int×aa,fun s_=>match s_ with|(j,o1)=>[.reg 7 (.j j),.reg 5 (.one (.vw 5 0 0 0 (O.ln o1))),.leaf 5 0 ⟨0,0,none,.own (.s 1 o1)⟩],fun s_=>match s_ with|(j,o1)=>0<=j/\j<=(a7.length:Int)/\Dl a2 a6 a7 j o1,fun s_=>match s_ with|(j,o1)=>a7.length-j.toNat,⟨(0,o),?_,?_⟩,?_⟩;rotate_left;(focus (cbv;done));intro s_ hj;obtain⟨j,o1⟩:=s_;replace hj:0<=j/\j<=(a7.length:Int)/\Dl a2 a6 a7 j o1:=hj;obtain⟨j0,j1,j2⟩:=hj;cbv)|(refine⟨[1,3,4,5,7,8],[1,3,5],Int×aa,fun s_=>match s_ with|(k,o2)=>[.reg 8 (.j k),.reg 5 (.one (.vw 5 0 0 0 (O.ln o2))),.leaf 5 0 ⟨0,0,none,.own (.s 1 o2)⟩],fun s_=>match s_ with|(k,o2)=>0<=k/\k<=af a7 j 1/\Gy a2 a6 a7 j k o2,fun s_=>match s_ with|(k,o2)=>(af a7 j 1-k).toNat,⟨(0,o1),?_,?_⟩,?_⟩;rotate_left;(focus (cbv;done));intro s_ hk;obtain⟨k,o2⟩:=s_;replace hk:0<=k/\k<=af a7 j 1/\Gy a2 a6 a7 j k o2:=hk;obtain⟨k0,k1,k2⟩:=hk;cbv)|(refine⟨[1,3,4,5,10],[1,3,5],Int,fun t=>[.reg 10 (.j t)],fun t=>0<=t/\t<=(o1.length:Int)/\upto (fun t=>decide (af o1 t 0<a2.length)) t,fun t=>o1.length-t.toNat,⟨0,?_,?_⟩,?_⟩;rotate_left;(focus (cbv;done));intro t ht;replace ht:0<=t/\t<=(o1.length:Int)/\upto (fun t=>decide (af o1 t 0<a2.length)) t:=ht;obtain⟨t0,t1,t2⟩:=ht;cbv)|(refine⟨[1,3,4,5,11],[1,3,5],Int,fun e=>[.reg 11 (.j e)],fun e=>0<=e/\e<=(a2.length:Int)/\upto (tn a2 a5 a6 a7) e,fun e=>a2.length-e.toNat,⟨0,?_,?_⟩,?_⟩;rotate_left;(focus (cbv;done));intro e he;replace he:0<=e/\e<=(a2.length:Int)/\upto (tn a2 a5 a6 a7) e:=he;obtain⟨e0,e1,e2⟩:=he;cbv)|(refine ab (O.ar .add .i64 k 1,O.cat o2 (O.sub [[.i (O.ar .add .i64 (O.gi a7 j 0) k)]] 0 (O.ln [[.i (O.ar .add .i64 (O.gi a7 j 0) k)]]))) ?_ ?_ ?_;focus (cbv;done))|(refine ab (O.ar .add .i64 j 1,o2) ?_ ?_ ?_;focus (cbv;done))|(refine ab (O.ar .add .i64 e 1) ?_ ?_ ?_;focus (cbv;done))|(refine ab (O.ar .add .i64 t 1) ?_ ?_ ?_;focus (cbv;done))|(refine ab (O.ar .add .i64 i 1,O.cat o (O.sub [[.i (O.gi a6 i 0)]] 0 (O.ln [[.i (O.gi a6 i 0)]]))) ?_ ?_ ?_;focus (cbv;done))
 all_goals(subst hO hr hF;(try simp only[nc]at*);(try simp only[ai,SS,sa,az]at*);(try rw[cB (by omega) (by omega)]);(try have zi:=sY i0 (by omega));(try simp only[zi]at*);(try have zj:=sY j0 (by omega));(try simp only[zj]at*);(try have lf:=lgF j j0 (by assumption));(try have z6:bP .add .i64 k 1=k+1:=bC (by omega));(try simp only[z6]at*);(try have z5:bP .add .i64 (af a7 j 0) k=af a7 j 0+k:=bC (by omega));(try simp only[z5]at*);(try have w1:=Ng (by assumption));(try have w2:=M8 k2 (by omega));(try have w3:=K4 hlay j2 j1 (by assumption) hsl hll);(try simp only[jq t0]at*);(try have w4:=w3.1);(try unfold maxLen at w4);(try have z7:bP .add .i64 t 1=t+1:=bC (by omega));(try simp only[z7]at*);(try simp only[Nb j2 j1 (by assumption)]at*);(try simp only[Ke e0 (by assumption)]at*))
 all_goals first
  | (show(_:List DV)=_
     first
      |(refine ag ?_;symm;exact KU i0 (by assumption) (zH (by assumption) (by assumption)))
      |(refine ag ?_;symm;exact F9 j0 (by assumption) (FJ (zH (by assumption) (by assumption))))
      |(refine ag ?_;symm;exact F9 j0 (by assumption) (FK k0 (by assumption) (by omega)))
      |(refine ag ?_;symm;exact KV (Na j2 j1 (by assumption) t0 (by assumption) (by assumption)))
      |(refine ag ?_;symm;exact Ga e0 (by assumption) (Fs (by assumption)))
      |(refine ag ?_;symm;exact Ga e0 (by assumption) (GP (by assumption) (by assumption)))
      |(refine ag ?_;symm;exact M5 i2.ok (by omega) j2.ok (by omega) e2 (by omega) (Nc j2 j1 (by assumption) t2 (by omega)))
      |done)
  |omega
  |exact eZ
  |(show bz _ _=true;kernel_rfl)
  |exact⟨hew,hel⟩
  |exact⟨hfw,hfl⟩
  |exact nE w3 t0 (by assumption)
  |(constructor<;>(simp only[List.length_cons,List.length_nil];omega))
  |exact Gd i2 i0 (zI (by omega))
  |exact Gd i2 i0 (zJ (by assumption))
  |exact Nf
  |exact M9 i2 i1 (by omega)
  |exact K2 j2 (zI (by omega))
  |exact K2 j2 (zJ (by assumption))
  |exact K3 k2 k0 (by omega)
  |exact K5 k2 j0 (by omega) (by omega) k1 (by omega)
  |exact aY
  |exact aP t2 (decide_eq_true (by assumption))
  |exact aP e2 (Je (by assumption) (by assumption))
  |exact⟨True.intro,True.intro⟩
  |done
namespace Pa3
structure aO where
 fpg:aa->Int->aa
 spI:aa->Int->Int
 mshB:Int->Int->Int->Int->Int->Int->Bool
abbrev F0 :aO:=⟨fpg,spI,mshB⟩
def ct (F:aO):CT:=fun f ds=>match f,ds with
 |140,[.agg [.s 1 a0,.s 1 a1,.s 2 a2,.v (.int .i64 a3),.s 1 a4,.s 2 a5,.s 3 a6,.s 3 a7,.s 4 a8,.s 1 a9,.s 1 aA,.s 1 aB,.v (.int .i64 aC),.s 3 aD,.v (.int .i64 aE),.v (.int .i64 aF),.v (.int .i64 aG),.v (.int .i64 aH),.v (.bool aI),.v (.int .i64 aJ),.v (.int .i64 aK),.s 1 aL,.v (.int .i64 aM),.v (.int .i64 aN)],.one (.v (.int .i64 pg))]=>some (fun _=>Rw [tI,tI] a2/\a2.length<=1099511627776,[.one (.s 1 (F.fpg a2 pg))])
 |76,[.agg [.s 1 a0,.s 1 a1,.s 2 a2,.v (.int .i64 a3),.s 1 a4,.s 2 a5,.s 3 a6,.s 3 a7,.s 4 a8,.s 1 a9,.s 1 aA,.s 1 aB,.v (.int .i64 aC),.s 3 aD,.v (.int .i64 aE),.v (.int .i64 aF),.v (.int .i64 aG),.v (.int .i64 aH),.v (.bool aI),.v (.int .i64 aJ),.v (.int .i64 aK),.s 1 aL,.v (.int .i64 aM),.v (.int .i64 aN)],.one (.v (.int .i64 pg))]=>some (fun _=>Rw [tI,tI,tI] a6/\a6.length<=1099511627776,[.j (F.spI a6 pg)])
 |142,[.agg [.v (.int .i64 p1),.v (.int .i64 k1),.v (.int .i64 b1)],.agg [.v (.int .i64 p2),.v (.int .i64 k2),.v (.int .i64 b2)]]=>some (fun _=>True,[.k (F.mshB p1 k1 b1 p2 k2 b2)])
 |_,_=>none
theorem aj :aR (ct F0):=by
 intro f ds pre res h hp;unfold ct at h;split at h<;>cases h
 exact fN hp;exact j8 hp;exact oO hp
abbrev B :cD:=tb aj
end Pa3
theorem my {a0 a1 a2:aa}{a3:Int}{a4 a5 a6 a7 a8 a9 aA aB:aa}{aC:Int}{aD:aa}{aE aF aG aH:Int}{aI:Bool}{aJ aK:Int}{aL:aa}{aM aN:Int}(hp:jX a6 a7 a8 a9 aA aB aD/\Rw [tI,tI] a2/\a2.length<=1099511627776):ao 67 [.agg (kH a0 a1 a2 a3 a4 a5 a6 a7 a8 a9 aA aB aC aD aE aF aG aH aI aJ aK aL aM aN)] [.k (smS a2 a6)]:=by
 obtain⟨N,hew,hel⟩:=hp;have hsw:=N.sw;have hsl:=N.sl;have fr:=fun p=>GV (es:=a2) (p:=p) hel
 refine cb Pa3.B Tryz.func67 ?_
 intro O r F hO hr hF;cbv
 repeat' first|apply And.intro|(apply bi<;>intro hb<;>cbv)|(refine⟨[1,3],[1],Int,fun i=>[.reg 3 (.j i)],fun i=>0<=i/\i<=(a6.length:Int)/\upto (msA a2 a6) i,fun i=>a6.length-i.toNat,⟨0,?_,?_⟩,?_⟩;rotate_left;(focus (cbv;done));intro i hi;replace hi:0<=i/\i<=(a6.length:Int)/\upto (msA a2 a6) i:=hi;obtain⟨i0,i1,i2⟩:=hi;cbv)|(refine⟨[1,3,4,5],[1,4],Int,fun k=>[.reg 5 (.j k)],fun k=>0<=k/\k<=((fpg a2 (af a6 i 0)).length:Int)/\upto (B5 a2 a6 i) k,fun k=>(fpg a2 (af a6 i 0)).length-k.toNat,⟨0,?_,?_⟩,?_⟩;rotate_left;(focus (cbv;done));intro k hk;replace hk:0<=k/\k<=((fpg a2 (af a6 i 0)).length:Int)/\upto (B5 a2 a6 i) k:=hk;obtain⟨k0,k1,k2⟩:=hk;cbv)|(refine ab (O.ar .add .i64 k 1) ?_ ?_ ?_;focus (cbv;done))|(refine ab (O.ar .add .i64 i 1) ?_ ?_ ?_;focus (cbv;done))
 all_goals(subst hO hr hF;(try simp only[nc]at*);(try simp only[ai,SS,sa,az]at*);(try rw[cB (by omega) (by omega)]);(try simp only[jq k0]at*);(try have w1:=fr (af a6 i 0));(try have w2:=w1.1);(try have w3:=w1.2);(try have z6:bP .add .i64 k 1=k+1:=bC (by omega));(try simp only[z6]at*);(try have w4:=fun h=>Lq (sp:=a6) (p:=af (fpg a2 (af a6 i 0)) k 0) h))
 all_goals first
  | (show(_:List DV)=_
     first
      |(refine ag ?_;symm;exact bB (p:=msA a2 a6) i0 (by assumption) (Kj k0 (by assumption) (by assumption) (by assumption)))
      |(refine ag ?_;symm;exact bB (p:=msA a2 a6) i0 (by assumption) (Kk k0 (by assumption) (by assumption) (by assumption)))
      |(refine ag ?_;symm;exact bc i2 (by omega))
      |done)
  |omega
  |exact eZ
  |(show bz _ _=true;kernel_rfl)
  |exact⟨hew,hel⟩
  |exact⟨hsw,by omega⟩
  |exact nE w2 k0 (by assumption)
  |exact aY
  |exact aP k2 (Kc (by assumption))
  |exact aP k2 (Kd (by assumption) (by assumption))
  |exact aP i2 (bc k2 (by omega))
  |(have q:true=false:=(by assumption);cases q)
  |exact⟨True.intro,True.intro⟩
  |done
end Go.V