/- Contracts. -/
import Derived.Test.YtcodmgmliopheaaGreatLayOt
set_option linter.all false
open Go
open And renaming intro->AT
open Int renaming toNat_of_nonneg->VQ
open List renaming length_cons->V9
open True renaming intro->VT
namespace Go.V
open Go Go.Proofs
set_option maxRecDepth 1000000
set_option maxHeartbeats 8000000
namespace Pa0
structure aQ where
 peM:aa->Int->Int
 peF:aa->Int->Int
abbrev F0 :aQ:=⟨peM,peF⟩
def ct (F:aQ):CT:=fun f ds=>match f,ds with
 |112,[.agg [.s 2 es],.one (.v (.int .i64 p))]=>some (fun _=>Rw [tI,tI] es,[.agg [.i (F.peM es p),.i (F.peF es p)]])
 |_,_=>none
theorem aj :aR (ct F0):=by
 intro f ds pre res h hp;unfold ct at h;split at h<;>cases h
 exact cP hp
abbrev B :cy:=tb aj
end Pa0
theorem fw {a0 a1 a2:aa}{a3:Int}{a4:aa}{p:Int}(hp:Rw [tI,tI] a2):aw 289 [.agg [.s 1 a0,.s 1 a1,.s 2 a2,.i a3,.s 1 a4],.j p] [.k (mapB a2 p)]:=by
 refine cb Pa0.B Tryz.func289 ?_
 intro O r F hO hr hF;cbv
 repeat' first|apply AT|(apply bi<;>intro hb<;>cbv)
 all_goals(subst hO hr hF;(try simp only[nc]at*);(try simp only[ah,SS,sa,az]at*))
 all_goals first|(show(_:List DV)=_;refine ai ?_;unfold mapB;rw[yF];done)|exact hp|done
namespace Pa1
structure aQ where
 fpg:aa->Int->aa
 mapB:aa->Int->Bool
 rhB:aa->Int->Bool
 peM:aa->Int->Int
 peF:aa->Int->Int
 mshB:Int->Int->Int->Int->Int->Int->Bool
abbrev F0 :aQ:=⟨fpg,mapB,rhB,peM,peF,mshB⟩
def ct (F:aQ):CT:=fun f ds=>match f,ds with
 |206,[.agg [.s 1 a0,.s 1 a1,.s 2 a2,.v (.int .i64 a3),.s 1 a4,.s 2 a5,.s 3 a6,.s 3 a7,.s 4 a8,.s 1 a9,.s 1 aA,.s 1 aB,.v (.int .i64 aC),.s 3 aD,.v (.int .i64 aE),.v (.int .i64 aF),.v (.int .i64 aG),.v (.int .i64 aH),.v (.bool aI),.v (.int .i64 aJ),.v (.int .i64 aK),.s 1 aL,.v (.int .i64 aM),.v (.int .i64 aN)],.one (.v (.int .i64 pg))]=>some (fun _=>Rw [tI,tI] a2/\a2.length<=1099511627776,[.one (.s 1 (F.fpg a2 pg))])
 |289,[.agg [.s 1 a0,.s 1 a1,.s 2 a2,.v (.int .i64 a3),.s 1 a4],.one (.v (.int .i64 p))]=>some (fun _=>Rw [tI,tI] a2,[.k (F.mapB a2 p)])
 |290,[.one (.s 2 os),.one (.v (.int .i64 id))]=>some (fun _=>Rw [tI,tI] os/\os.length<=1099511627776,[.k (F.rhB os id)])
 |112,[.agg [.s 2 es],.one (.v (.int .i64 p))]=>some (fun _=>Rw [tI,tI] es,[.agg [.i (F.peM es p),.i (F.peF es p)]])
 |209,[.agg [.v (.int .i64 p1),.v (.int .i64 k1),.v (.int .i64 b1)],.agg [.v (.int .i64 p2),.v (.int .i64 k2),.v (.int .i64 b2)]]=>some (fun _=>True,[.k (F.mshB p1 k1 b1 p2 k2 b2)])
 |_,_=>none
theorem aj :aR (ct F0):=by
 intro f ds pre res h hp;unfold ct at h;split at h<;>cases h
 exact mO hp;exact fw hp;exact qM hp;exact cP hp;exact qK hp
abbrev B :cy:=tb aj
end Pa1
theorem tc {a0 a1 a2:aa}{a3:Int}{a4 a5 a6 a7 a8 a9 aA aB:aa}{aC:Int}{aD:aa}{aE aF aG aH:Int}{aI:Bool}{aJ aK:Int}{aL:aa}{aM aN:Int}(hp:zZ a6 a7 a8 a9 aA aB aD/\layOk a6 a7=true/\Rw [tI,tI] a2/\a2.length<=1099511627776/\Rw [tI,tI] a5/\a5.length<=1099511627776):aw 169 [.agg (ji a0 a1 a2 a3 a4 a5 a6 a7 a8 a9 aA aB aC aD aE aF aG aH aI aJ aK aL aM aN)] [.k (pgI a2 a5 a6 a7)]:=by
 obtain⟨N,hlay,hew,hel,hfw,hfl⟩:=hp;have hsw:=N.sw;have hlw:=N.lw;have hsl:=N.sl;have hll:=N.ll;have F:=NM hlay;have lgF:∀ j:Int,0<=j->j<a7.length->0<=af a7 j 0/\1<=af a7 j 1/\af a7 j 0+af a7 j 1<=32:=fun j h0 h1=>by
  have t:=ig (F.l j.toNat (by omega));rw[VQ h0]at t;have b:=gQ t.1;omega
 refine cb Pa1.B Tryz.func169 ?_
 intro O r F hO hr hF;cbv
 repeat' first|apply AT|(apply bi<;>intro hb<;>cbv)|(refine⟨[1,18,19,20],[1],Int,fun i=>[.reg 20 (.j i)],fun i=>0<=i/\i<=(a6.length:Int)/\upto (sM a6) i,fun i=>a6.length-i.toNat,⟨0,?_,?_⟩,?_⟩;rotate_left;(focus (cbv;done));intro i hi;replace hi:0<=i/\i<=(a6.length:Int)/\upto (sM a6) i:=hi;obtain⟨i0,i1,i2⟩:=hi;cbv)|(refine⟨[1,5,42,43,44],[1,40],Int×aa,fun s_=>match s_ with|(q,m)=>[.reg 44 (.j q),.leaf 40 0 ⟨0,0,none,.own (.m true m)⟩],fun s_=>match s_ with|(q,m)=>0<=q/\q<=(a6.length:Int)/\sQ m (iw a6 q.toNat),fun s_=>match s_ with|(q,m)=>a6.length-q.toNat,⟨(0,[]),?_,?_⟩,?_⟩;rotate_left;(focus (cbv;done));intro s_ hq;obtain⟨q,m⟩:=s_;replace hq:0<=q/\q<=(a6.length:Int)/\sQ m (iw a6 q.toNat):=hq;obtain⟨q0,q1,q2⟩:=hq;cbv)|(refine⟨[1,5,53,54,55],[1,40],Int×aa,fun s_=>match s_ with|(j,m1)=>[.reg 55 (.j j),.leaf 40 0 ⟨0,0,none,.own (.m true m1)⟩],fun s_=>match s_ with|(j,m1)=>0<=j/\j<=(a7.length:Int)/\NG a2 a6 a7 j m1,fun s_=>match s_ with|(j,m1)=>a7.length-j.toNat,⟨(0,m),?_,?_⟩,?_⟩;rotate_left;(focus (cbv;done));intro s_ hj;obtain⟨j,m1⟩:=s_;replace hj:0<=j/\j<=(a7.length:Int)/\NG a2 a6 a7 j m1:=hj;obtain⟨j0,j1,j2⟩:=hj;cbv)|(refine⟨[1,5,9,10,53,54,55],[1,40,9],Int×aa,fun s_=>match s_ with|(p,m2)=>[.reg 10 (.j p),.leaf 40 0 ⟨0,0,none,.own (.m true m2)⟩],fun s_=>match s_ with|(p,m2)=>af a7 j 0<=p/\p<=af a7 j 0+af a7 j 1/\NF a2 a6 a7 j (p-af a7 j 0) m2,fun s_=>match s_ with|(p,m2)=>(af a7 j 0+af a7 j 1-p).toNat,⟨(O.gi a7 j 0,m1),?_,?_⟩,?_⟩;rotate_left;(focus (cbv;done));intro s_ hp;obtain⟨p,m2⟩:=s_;replace hp:af a7 j 0<=p/\p<=af a7 j 0+af a7 j 1/\NF a2 a6 a7 j (p-af a7 j 0) m2:=hp;obtain⟨p0,p1,p2⟩:=hp;cbv)|(refine⟨[1,5,98,99],[1,40],Int,fun e=>[.reg 99 (.j e)],fun e=>0<=e/\e<=(a2.length:Int)/\upto (xC a2 a5 a6 a7) e,fun e=>a2.length-e.toNat,⟨0,?_,?_⟩,?_⟩;rotate_left;(focus (cbv;done));intro e he;replace he:0<=e/\e<=(a2.length:Int)/\upto (xC a2 a5 a6 a7) e:=he;obtain⟨e0,e1,e2⟩:=he;cbv)|(refine⟨[1,122],[1],List Int,fun vs=>[.reg 122 (.one (.it m1 vs))],fun vs=>True/\∀ k∈vs,k<(a2.length:Int),fun vs=>m1.length-vs.length,⟨[],?_,?_⟩,?_⟩;rotate_left;(focus (cbv;done));intro vs sc;replace sc:True/\∀ k∈vs,k<(a2.length:Int):=sc;obtain⟨vs0,vs1⟩:=sc;cbv)|(refine⟨[1,136,137,138],[1],Int,fun u=>[.reg 138 (.j u)],fun u=>0<=u/\u<=(a6.length:Int)/\upto (Hz a2 a6) u,fun u=>a6.length-u.toNat,⟨0,?_,?_⟩,?_⟩;rotate_left;(focus (cbv;done));intro u hu;replace hu:0<=u/\u<=(a6.length:Int)/\upto (Hz a2 a6) u:=hu;obtain⟨u0,u1,u2⟩:=hu;cbv)|(refine⟨[1,14,136,137,138,146,147,148],[1,14],Int,fun v=>[.reg 148 (.j v)],fun v=>0<=v/\v<=u/\upto (EL a2 a6 u) v,fun v=>(u-v).toNat,⟨0,?_,?_⟩,?_⟩;rotate_left;(focus (cbv;done));intro v hv;replace hv:0<=v/\v<=u/\upto (EL a2 a6 u) v:=hv;obtain⟨v0,v1,v2⟩:=hv;cbv)|(refine ab (O.ar .add .i64 p 1,O.mu m2 p (.v (.bool true))) ?_ ?_ ?_;focus (cbv;done))|(refine ab (O.ar .add .i64 j 1,m2) ?_ ?_ ?_;focus (cbv;done))|(refine ab (O.ar .add .i64 q 1,O.mu m (O.gi a6 q 0) (.v (.bool true))) ?_ ?_ ?_;focus (cbv;done))|(refine ab (O.ar .add .i64 v 1) ?_ ?_ ?_;focus (cbv;done))|(refine ab (O.ar .add .i64 u 1) ?_ ?_ ?_;focus (cbv;done))|(refine ab (O.ar .add .i64 e 1) ?_ ?_ ?_;focus (cbv;done))|(refine ab (O.ar .add .i64 i 1) ?_ ?_ ?_;focus (cbv;done))|(refine ab (kk::vs) ?_ ?_ ?_;focus (cbv;done))|((intro(kk:Int) (hkk:O.pr _);cbv))|((intro(hkk:O.pr _);cbv))
 all_goals(subst hO hr hF;(try simp only[nc]at*);(try simp only[ah,SS,sa,az]at*);(try rw[cE (by omega) (by omega)]);(try have zi:=xf i0 (by omega));(try simp only[zi]at*);(try have zj:=xf j0 (by omega));(try simp only[zj]at*);(try have lf:=lgF j j0 (by assumption));(try have zl:bJ .add .i64 (af a7 j 0) (af a7 j 1)=af a7 j 0+af a7 j 1:=bB (by omega));(try simp only[zl]at*);(try have zp:bJ .add .i64 p 1=p+1:=bB (by omega));(try simp only[zp]at*);(try have zv:bJ .add .i64 v 1=v+1:=bB (by omega));(try simp only[zv]at*);(try simp only[P7 (MZ j2 j1 (by assumption))]at*);(try simp only[vL]at*);(try have tl:(List.take u.toNat a6).length=u.toNat:=by(rw[List.length_take];omega));(try have hwt:=Rw.take hsw u.toNat);(try simp only[sF (es:=a6) (n:=u.toNat) (i:=v) (by omega)]at*))
 all_goals first
  | (show(_:List DV)=_
     first
      |(refine ai ?_;symm;exact Qd i0 (by assumption) (D1 (by assumption) (by assumption)))
      |(refine ai ?_;symm;exact Kz j0 (by assumption) (Kc (D1 (by assumption) (by assumption))))
      |(refine ai ?_;symm;exact Kz j0 (by assumption) (Qi p0 (by assumption) (by omega)))
      |(refine ai ?_;symm;exact KA e0 (by assumption) (JO (by assumption)))
      |(refine ai ?_;symm;exact KA e0 (by assumption) (JP (by assumption)))
      |(refine ai ?_;symm;exact Qe (P1 (((MZ j2 j1 (by assumption)).k _).1 hkk.1) (by assumption)))
      |(refine ai ?_;symm;exact Qf u0 (by assumption) (Tl v0 (by omega) (by assumption) (by assumption)))
      |(refine ai ?_;symm;exact TA i2 (by omega) j2.ok (by omega) e2 (by omega) (Tu (MZ j2 j1 (by assumption)) vs1 hkk) u2 (by omega))
      |done)
  |omega
  |exact fe
  |(show aV _ _=true;kernel_rfl)
  |exact⟨hew,hel⟩
  |exact⟨hfw,hfl⟩
  |exact bu
  |exact aY i2 (D2 (by omega))
  |exact aY i2 (D3 (by assumption))
  |(rw[kS q0];exact GE q2)
  |exact P6
  |exact TC q2 q1 (by omega)
  |exact Qh j2 (D2 (by omega))
  |exact Qh j2 (D3 (by assumption))
  |exact Qj p2 p0 (by omega)
  |exact Qk p2 j0 (by omega) p1 (by omega)
  |exact aY e2 (On (by assumption) (by assumption))
  |exact Q4 vs1 (by assumption)
  |exact fun k hk=>by cases hk
  |(have q:=hkk.2;simp only[V9];omega)
  |exact aY v2 (Pz (by assumption))
  |exact aY v2 (PC (by assumption))
  |exact aY u2 (Tm v2 (by omega) u0)
  |done
namespace Pa2
structure aQ where
 fpg:aa->Int->aa
 hasB:aa->Int->Bool
 rhB:aa->Int->Bool
abbrev F0 :aQ:=⟨fpg,hasB,rhB⟩
def ct (F:aQ):CT:=fun f ds=>match f,ds with
 |268,[.agg [.s 1 a0,.s 1 a1,.s 2 a2,.v (.int .i64 a3),.s 1 a4,.s 2 a5,.s 3 a6,.s 3 a7,.s 4 a8,.s 1 a9,.s 1 aA,.s 1 aB,.v (.int .i64 aC),.s 3 aD,.v (.int .i64 aE),.v (.int .i64 aF),.v (.int .i64 aG),.v (.int .i64 aH),.v (.bool aI),.v (.int .i64 aJ),.v (.int .i64 aK),.s 1 aL,.v (.int .i64 aM),.v (.int .i64 aN)],.one (.v (.int .i64 pg))]=>some (fun _=>Rw [tI,tI] a2/\a2.length<=1099511627776,[.one (.s 1 (F.fpg a2 pg))])
 |266,[.one (.s 1 l),.one (.v (.int .i64 x))]=>some (fun _=>Rw [tI] l,[.k (F.hasB l x)])
 |269,[.one (.s 2 os),.one (.v (.int .i64 id))]=>some (fun _=>Rw [tI,tI] os/\os.length<=1099511627776,[.k (F.rhB os id)])
 |_,_=>none
theorem aj :aR (ct F0):=by
 intro f ds pre res h hp;unfold ct at h;split at h<;>cases h
 exact gU hp;exact eB hp;exact rU hp
abbrev B :cy:=tb aj
end Pa2
theorem rZ {a0 a1 a2:aa}{a3:Int}{a4 a5 a6 a7 a8 a9 aA aB:aa}{aC:Int}{aD:aa}{aE aF aG aH:Int}{aI:Bool}{aJ aK:Int}{aL:aa}{aM aN:Int}(hp:zZ a6 a7 a8 a9 aA aB aD/\layOk a6 a7=true/\Rw [tI,tI] a2/\a2.length<=1099511627776/\Rw [tI,tI] a5/\a5.length<=1099511627776):aw 137 [.agg (ji a0 a1 a2 a3 a4 a5 a6 a7 a8 a9 aA aB aC aD aE aF aG aH aI aJ aK aL aM aN)] [.k (pgS a2 a5 a6 a7)]:=by
 obtain⟨N,hlay,hew,hel,hfw,hfl⟩:=hp;have hsw:=N.sw;have hlw:=N.lw;have hsl:=N.sl;have hll:=N.ll;have F:=NM hlay;have lgF:∀ j:Int,0<=j->j<a7.length->0<=af a7 j 0/\1<=af a7 j 1/\af a7 j 0+af a7 j 1<=32:=fun j h0 h1=>by
  have t:=ig (F.l j.toNat (by omega));rw[VQ h0]at t;have b:=gQ t.1;omega
 refine cb Pa2.B Tryz.func137 ?_
 intro O r F hO hr hF;cbv
 repeat' first|apply AT|(apply bi<;>intro hb<;>cbv)|(refine⟨[1,3,4,5,6],[1,3,5],Int×aa,fun s_=>match s_ with|(i,o)=>[.reg 6 (.j i),.reg 5 (.one (.vw 5 0 0 0 (O.ln o))),.leaf 5 0 ⟨0,0,none,.own (.s 1 o)⟩],fun s_=>match s_ with|(i,o)=>0<=i/\i<=(a6.length:Int)/\K8 a6 i o,fun s_=>match s_ with|(i,o)=>a6.length-i.toNat,⟨(0,[]),?_,?_⟩,?_⟩;rotate_left;(focus (cbv;done));intro s_ hi;obtain⟨i,o⟩:=s_;replace hi:0<=i/\i<=(a6.length:Int)/\K8 a6 i o:=hi;obtain⟨i0,i1,i2⟩:=hi;cbv)|(refine⟨[1,3,4,5,7],[1,3,5],Int×aa,fun s_=>match s_ with|(j,o1)=>[.reg 7 (.j j),.reg 5 (.one (.vw 5 0 0 0 (O.ln o1))),.leaf 5 0 ⟨0,0,none,.own (.s 1 o1)⟩],fun s_=>match s_ with|(j,o1)=>0<=j/\j<=(a7.length:Int)/\Ht a2 a6 a7 j o1,fun s_=>match s_ with|(j,o1)=>a7.length-j.toNat,⟨(0,o),?_,?_⟩,?_⟩;rotate_left;(focus (cbv;done));intro s_ hj;obtain⟨j,o1⟩:=s_;replace hj:0<=j/\j<=(a7.length:Int)/\Ht a2 a6 a7 j o1:=hj;obtain⟨j0,j1,j2⟩:=hj;cbv)|(refine⟨[1,3,4,5,7,8],[1,3,5],Int×aa,fun s_=>match s_ with|(k,o2)=>[.reg 8 (.j k),.reg 5 (.one (.vw 5 0 0 0 (O.ln o2))),.leaf 5 0 ⟨0,0,none,.own (.s 1 o2)⟩],fun s_=>match s_ with|(k,o2)=>0<=k/\k<=af a7 j 1/\K7 a2 a6 a7 j k o2,fun s_=>match s_ with|(k,o2)=>(af a7 j 1-k).toNat,⟨(0,o1),?_,?_⟩,?_⟩;rotate_left;(focus (cbv;done));intro s_ hk;obtain⟨k,o2⟩:=s_;replace hk:0<=k/\k<=af a7 j 1/\K7 a2 a6 a7 j k o2:=hk;obtain⟨k0,k1,k2⟩:=hk;cbv)|(refine⟨[1,3,4,5,10],[1,3,5],Int,fun t=>[.reg 10 (.j t)],fun t=>0<=t/\t<=(o1.length:Int)/\upto (fun t=>decide (af o1 t 0<a2.length)) t,fun t=>o1.length-t.toNat,⟨0,?_,?_⟩,?_⟩;rotate_left;(focus (cbv;done));intro t ht;replace ht:0<=t/\t<=(o1.length:Int)/\upto (fun t=>decide (af o1 t 0<a2.length)) t:=ht;obtain⟨t0,t1,t2⟩:=ht;cbv)|(refine⟨[1,3,4,5,11],[1,3,5],Int,fun e=>[.reg 11 (.j e)],fun e=>0<=e/\e<=(a2.length:Int)/\upto (xC a2 a5 a6 a7) e,fun e=>a2.length-e.toNat,⟨0,?_,?_⟩,?_⟩;rotate_left;(focus (cbv;done));intro e he;replace he:0<=e/\e<=(a2.length:Int)/\upto (xC a2 a5 a6 a7) e:=he;obtain⟨e0,e1,e2⟩:=he;cbv)|(refine ab (O.ar .add .i64 k 1,O.cat o2 (O.sub [[.i (O.ar .add .i64 (O.gi a7 j 0) k)]] 0 (O.ln [[.i (O.ar .add .i64 (O.gi a7 j 0) k)]]))) ?_ ?_ ?_;focus (cbv;done))|(refine ab (O.ar .add .i64 j 1,o2) ?_ ?_ ?_;focus (cbv;done))|(refine ab (O.ar .add .i64 e 1) ?_ ?_ ?_;focus (cbv;done))|(refine ab (O.ar .add .i64 t 1) ?_ ?_ ?_;focus (cbv;done))|(refine ab (O.ar .add .i64 i 1,O.cat o (O.sub [[.i (O.gi a6 i 0)]] 0 (O.ln [[.i (O.gi a6 i 0)]]))) ?_ ?_ ?_;focus (cbv;done))
 all_goals(subst hO hr hF;(try simp only[nc]at*);(try simp only[ah,SS,sa,az]at*);(try rw[cE (by omega) (by omega)]);(try have zi:=xf i0 (by omega));(try simp only[zi]at*);(try have zj:=xf j0 (by omega));(try simp only[zj]at*);(try have lf:=lgF j j0 (by assumption));(try have z6:bJ .add .i64 k 1=k+1:=bB (by omega));(try simp only[z6]at*);(try have z5:bJ .add .i64 (af a7 j 0) k=af a7 j 0+k:=bB (by omega));(try simp only[z5]at*);(try have w1:=TN (by assumption));(try have w2:=TG k2 (by omega));(try have w3:=Qx hlay j2 j1 (by assumption) hsl hll);(try simp only[jx t0]at*);(try have w4:=w3.1);(try unfold maxLen at w4);(try have z7:bJ .add .i64 t 1=t+1:=bB (by omega));(try simp only[z7]at*);(try simp only[TK j2 j1 (by assumption)]at*);(try simp only[PF e0 (by assumption)]at*))
 all_goals first
  | (show(_:List DV)=_
     first
      |(refine ai ?_;symm;exact Qn i0 (by assumption) (D1 (by assumption) (by assumption)))
      |(refine ai ?_;symm;exact KB j0 (by assumption) (Kc (D1 (by assumption) (by assumption))))
      |(refine ai ?_;symm;exact KB j0 (by assumption) (Kd k0 (by assumption) (by omega)))
      |(refine ai ?_;symm;exact Qo (TJ j2 j1 (by assumption) t0 (by assumption) (by assumption)))
      |(refine ai ?_;symm;exact KC e0 (by assumption) (JO (by assumption)))
      |(refine ai ?_;symm;exact KC e0 (by assumption) (Ls (by assumption) (by assumption)))
      |(refine ai ?_;symm;exact TD i2.ok (by omega) j2.ok (by omega) e2 (by omega) (TL j2 j1 (by assumption) t2 (by omega)))
      |done)
  |omega
  |exact fe
  |(show aV _ _=true;kernel_rfl)
  |exact⟨hew,hel⟩
  |exact⟨hfw,hfl⟩
  |exact xZ w3 t0 (by assumption)
  |(constructor<;>(simp only[V9,List.length_nil];omega))
  |exact KF i2 i0 (D2 (by omega))
  |exact KF i2 i0 (D3 (by assumption))
  |exact TM
  |exact TH i2 i1 (by omega)
  |exact Qv j2 (D2 (by omega))
  |exact Qv j2 (D3 (by assumption))
  |exact Qw k2 k0 (by omega)
  |exact Qy k2 j0 (by omega) (by omega) k1 (by omega)
  |exact bu
  |exact aY t2 (decide_eq_true (by assumption))
  |exact aY e2 (Oo (by assumption) (by assumption))
  |exact⟨VT,VT⟩
  |done
namespace Pa3
structure aQ where
 fpg:aa->Int->aa
 spI:aa->Int->Int
 mshB:Int->Int->Int->Int->Int->Int->Bool
abbrev F0 :aQ:=⟨fpg,spI,mshB⟩
def ct (F:aQ):CT:=fun f ds=>match f,ds with
 |268,[.agg [.s 1 a0,.s 1 a1,.s 2 a2,.v (.int .i64 a3),.s 1 a4,.s 2 a5,.s 3 a6,.s 3 a7,.s 4 a8,.s 1 a9,.s 1 aA,.s 1 aB,.v (.int .i64 aC),.s 3 aD,.v (.int .i64 aE),.v (.int .i64 aF),.v (.int .i64 aG),.v (.int .i64 aH),.v (.bool aI),.v (.int .i64 aJ),.v (.int .i64 aK),.s 1 aL,.v (.int .i64 aM),.v (.int .i64 aN)],.one (.v (.int .i64 pg))]=>some (fun _=>Rw [tI,tI] a2/\a2.length<=1099511627776,[.one (.s 1 (F.fpg a2 pg))])
 |146,[.agg [.s 1 a0,.s 1 a1,.s 2 a2,.v (.int .i64 a3),.s 1 a4,.s 2 a5,.s 3 a6,.s 3 a7,.s 4 a8,.s 1 a9,.s 1 aA,.s 1 aB,.v (.int .i64 aC),.s 3 aD,.v (.int .i64 aE),.v (.int .i64 aF),.v (.int .i64 aG),.v (.int .i64 aH),.v (.bool aI),.v (.int .i64 aJ),.v (.int .i64 aK),.s 1 aL,.v (.int .i64 aM),.v (.int .i64 aN)],.one (.v (.int .i64 pg))]=>some (fun _=>Rw [tI,tI,tI] a6/\a6.length<=1099511627776,[.j (F.spI a6 pg)])
 |270,[.agg [.v (.int .i64 p1),.v (.int .i64 k1),.v (.int .i64 b1)],.agg [.v (.int .i64 p2),.v (.int .i64 k2),.v (.int .i64 b2)]]=>some (fun _=>True,[.k (F.mshB p1 k1 b1 p2 k2 b2)])
 |_,_=>none
theorem aj :aR (ct F0):=by
 intro f ds pre res h hp;unfold ct at h;split at h<;>cases h
 exact gU hp;exact lT hp;exact rS hp
abbrev B :cy:=tb aj
end Pa3
theorem pq {a0 a1 a2:aa}{a3:Int}{a4 a5 a6 a7 a8 a9 aA aB:aa}{aC:Int}{aD:aa}{aE aF aG aH:Int}{aI:Bool}{aJ aK:Int}{aL:aa}{aM aN:Int}(hp:zZ a6 a7 a8 a9 aA aB aD/\Rw [tI,tI] a2/\a2.length<=1099511627776):aw 138 [.agg (ji a0 a1 a2 a3 a4 a5 a6 a7 a8 a9 aA aB aC aD aE aF aG aH aI aJ aK aL aM aN)] [.k (smS a2 a6)]:=by
 obtain⟨N,hew,hel⟩:=hp;have hsw:=N.sw;have hsl:=N.sl;have fr:=fun p=>LA (es:=a2) (p:=p) hel
 refine cb Pa3.B Tryz.func138 ?_
 intro O r F hO hr hF;cbv
 repeat' first|apply AT|(apply bi<;>intro hb<;>cbv)|(refine⟨[1,3],[1],Int,fun i=>[.reg 3 (.j i)],fun i=>0<=i/\i<=(a6.length:Int)/\upto (msA a2 a6) i,fun i=>a6.length-i.toNat,⟨0,?_,?_⟩,?_⟩;rotate_left;(focus (cbv;done));intro i hi;replace hi:0<=i/\i<=(a6.length:Int)/\upto (msA a2 a6) i:=hi;obtain⟨i0,i1,i2⟩:=hi;cbv)|(refine⟨[1,3,4,5],[1,4],Int,fun k=>[.reg 5 (.j k)],fun k=>0<=k/\k<=((fpg a2 (af a6 i 0)).length:Int)/\upto (Gf a2 a6 i) k,fun k=>(fpg a2 (af a6 i 0)).length-k.toNat,⟨0,?_,?_⟩,?_⟩;rotate_left;(focus (cbv;done));intro k hk;replace hk:0<=k/\k<=((fpg a2 (af a6 i 0)).length:Int)/\upto (Gf a2 a6 i) k:=hk;obtain⟨k0,k1,k2⟩:=hk;cbv)|(refine ab (O.ar .add .i64 k 1) ?_ ?_ ?_;focus (cbv;done))|(refine ab (O.ar .add .i64 i 1) ?_ ?_ ?_;focus (cbv;done))
 all_goals(subst hO hr hF;(try simp only[nc]at*);(try simp only[ah,SS,sa,az]at*);(try rw[cE (by omega) (by omega)]);(try simp only[jx k0]at*);(try have w1:=fr (af a6 i 0));(try have w2:=w1.1);(try have w3:=w1.2);(try have z6:bJ .add .i64 k 1=k+1:=bB (by omega));(try simp only[z6]at*);(try have w4:=fun h=>QU (sp:=a6) (p:=af (fpg a2 (af a6 i 0)) k 0) h))
 all_goals first
  | (show(_:List DV)=_
     first
      |(refine ai ?_;symm;exact bI (p:=msA a2 a6) i0 (by assumption) (PQ k0 (by assumption) (by assumption) (by assumption)))
      |(refine ai ?_;symm;exact bI (p:=msA a2 a6) i0 (by assumption) (PR k0 (by assumption) (by assumption) (by assumption)))
      |(refine ai ?_;symm;exact bA i2 (by omega))
      |done)
  |omega
  |exact fe
  |(show aV _ _=true;kernel_rfl)
  |exact⟨hew,hel⟩
  |exact⟨hsw,by omega⟩
  |exact xZ w2 k0 (by assumption)
  |exact bu
  |exact aY k2 (PD (by assumption))
  |exact aY k2 (PE (by assumption) (by assumption))
  |exact aY i2 (bA k2 (by omega))
  |(have q:true=false:=(by assumption);cases q)
  |exact⟨VT,VT⟩
  |done
end Go.V