/-
  Contracts, by evaluation.
-/
import Derived.Test.YtniaaknbbceigaaGreatS10
import Derived.Test.YtniaaknbbceigaaGreatHB
import Derived.Test.YtniaaknbbceigaaGreatLayNq
set_option linter.all false
namespace Go.V
open Go Go.Proofs
set_option maxRecDepth 1000000
set_option maxHeartbeats 8000000
namespace Oa1
structure Fns where
 dnK:List (List L)->List (List L)->Int->Int
 dnI:List (List L)->List (List L)->Int->Int
 dnS:List (List L)->Int->Int
 dnO:List (List L)->List (List L)->Int->Int
 dzK:List (List L)->List (List L)->Int->Int
 dzI:List (List L)->List (List L)->Int->Int
 dzS:List (List L)->List (List L)->Int->Int
 dzO:List (List L)->List (List L)->Int->Int
def F0 :Fns:=⟨dnK,dnI,dnS,dnO,dzK,dzI,dzS,dzO⟩
def ct (F:Fns):CT:=fun f ds=>match f,ds with
 |98,[.one (.s 3 sp),.one (.s 3 lg),.one (.v (.int .i64 a))]=>some (fun _=>Rw [tI,tI,tI] sp/\Rw [tI,tI,tI] lg,[.agg [.v (.int .i64 (F.dnK sp lg a)),.v (.int .i64 (F.dnI sp lg a)),.v (.int .i64 (F.dnS sp a)),.v (.int .i64 (F.dnO sp lg a))]])
 |77,[.one (.s 3 sp),.one (.s 3 lg),.one (.v (.int .i64 a))]=>some (fun _=>Rw [tI,tI,tI] sp/\Rw [tI,tI,tI] lg/\sp.length<=1073741824/\lg.length<=1073741824/\ -9223372036854775808<=a/\a<=9223372036854775807,[.agg [.v (.int .i64 (F.dzK sp lg a)),.v (.int .i64 (F.dzI sp lg a)),.v (.int .i64 (F.dzS sp lg a)),.v (.int .i64 (F.dzO sp lg a))]])
 |_,_=>none
theorem ak :aW Tryz.prog (ct F0):=by
 intro f ds pre res h hp;unfold ct at h;split at h<;>(try split at h)<;>cases h
 exact gj _ _ _ hp;exact eI _ _ _ hp
def B :TB Tryz.prog:=tb ak
end Oa1
theorem lp (ad k:Int)(es a0 a1 a2:List (List L))(a3:Int)(a4 a5 a6 a7 a8 a9 a10 a11:List (List L))(a12:Int)(a13:List (List L))(a14 a15 a16 a17:Int)(a18:Bool)(a19 a20:Int)(a21:List (List L))(a22 a23:Int)(hp:Rw [tI,tI,tI] a6/\Rw [tI,tI,tI] a7):vH Tryz.prog 224 [.one (.v (.int .i64 ad)),.one (.v (.int .i64 k)),.mp [.own (.m false es)],.mp [.ro (.s 1 a0),.ro (.s 1 a1),.ro (.s 2 a2),.own (.v (.int .i64 a3)),.ro (.s 1 a4),.ro (.s 2 a5),.ro (.s 3 a6),.ro (.s 3 a7),.ro (.s 4 a8),.ro (.s 1 a9),.ro (.s 1 a10),.ro (.s 1 a11),.own (.v (.int .i64 a12)),.ro (.s 3 a13),.own (.v (.int .i64 a14)),.own (.v (.int .i64 a15)),.own (.v (.int .i64 a16)),.own (.v (.int .i64 a17)),.own (.v (.bool a18)),.own (.v (.int .i64 a19)),.own (.v (.int .i64 a20)),.ro (.s 1 a21),.own (.v (.int .i64 a22)),.own (.v (.int .i64 a23))]] [[.own (.m false (huI es ad))],[.ro (.s 1 a0),.ro (.s 1 a1),.ro (.s 2 a2),.own (.v (.int .i64 a3)),.ro (.s 1 a4),.ro (.s 2 a5),.ro (.s 3 a6),.ro (.s 3 a7),.ro (.s 4 a8),.ro (.s 1 a9),.ro (.s 1 a10),.ro (.s 1 a11),.own (.v (.int .i64 a12)),.ro (.s 3 a13),.own (.v (.int .i64 a14)),.own (.v (.int .i64 a15)),.own (.v (.int .i64 a16)),.own (.v (.int .i64 a17)),.own (.v (.bool a18)),.own (.v (.int .i64 a19)),.own (.v (.int .i64 a20)),.ro (.s 1 a21),.own (.v (.int .i64 a22)),.own (.v (.int .i64 a23))]] [.one (.v (.bool (hlB a6 a7 ad k)))]:=by
 obtain⟨hsw,hlw⟩:=hp;refine FG Oa1.B ag mixed 41 _ [4] [.tmp 6] Tryz.func224 rfl rfl rfl rfl rfl rfl rfl ?_;intro O r os (F:Oa1.Fns) hO hr hos (hF:F=Oa1.F0);cbv
 repeat' first|refine And.intro ?_ ?_|(refine aG (fun hb=>?_) (fun hb=>?_)<;>cbv)
 all_goals((try subst hos);subst hO hr hF;(try simp only[af,SS,sa,az]at*);(try simp only[nc]at*);(try simp only[aF]at*))
 all_goals(try simp only[Oa1.F0]at*)
 all_goals(try have d1:=fun h=>xO (sp:=a6) (lg:=a7) (a:=ad) h)
 all_goals first|(show(_:List DV)=_;refine ah ?_;unfold hlB;simp[*];done)|(show(_:List DV)=_;refine ah ?_;unfold hlB;rw[decide_eq_false (p:=k<0) (by omega),cmp_eq];simp[*];done)|(show(_:List H)=_;exact rfl)|exact⟨hsw,hlw⟩|(have e:=d1 (by assumption);(refine⟨by omega,by omega,(Rw.eta (by first|assumption|exact Rw.sub (by first|assumption|exact Rw.sub (by assumption) (by omega) rfl) (by omega) rfl) (by omega) (by omega)).trans ?_⟩;rfl))|done
theorem sj (a0 a1 a2:List (List L))(a3:Int)(a4 a5 a6 a7 a8 a9 a10 a11:List (List L))(a12:Int)(a13:List (List L))(a14 a15 a16 a17:Int)(a18:Bool)(a19 a20:Int)(a21:List (List L))(a22 a23 ad k:Int)(hp:vG a6 a7 a8 a9 a10 a11 a13/\layOk a6 a7=true/\ -9223372036854775808<=ad/\ad<=9223372036854775807):aP Tryz.prog 207 [.agg [.s 1 a0,.s 1 a1,.s 2 a2,.v (.int .i64 a3),.s 1 a4,.s 2 a5,.s 3 a6,.s 3 a7,.s 4 a8,.s 1 a9,.s 1 a10,.s 1 a11,.v (.int .i64 a12),.s 3 a13,.v (.int .i64 a14),.v (.int .i64 a15),.v (.int .i64 a16),.v (.int .i64 a17),.v (.bool a18),.v (.int .i64 a19),.v (.int .i64 a20),.s 1 a21,.v (.int .i64 a22),.v (.int .i64 a23)],.one (.v (.int .i64 ad)),.one (.v (.int .i64 k))] [.one (.v (.bool (hlB a6 a7 ad k)))]:=by
 obtain⟨N,hlay,ad0,ad1⟩:=hp;have hsw:=N.sw;have hlw:=N.lw;have hsl:=N.sl;have hll:=N.ll;refine ai Oa1.B ag mixed 37 _ [4] [.tmp 6] Tryz.func207 rfl rfl rfl rfl rfl ?_;intro O r (F:Oa1.Fns) hO hr (hF:F=Oa1.F0);cbv
 repeat' first|refine And.intro ?_ ?_|(refine aG (fun hb=>?_) (fun hb=>?_)<;>cbv)
 all_goals(subst hO hr hF;(try simp only[af,SS,sa,az]at*);(try simp only[nc]at*);(try simp only[aF]at*))
 all_goals(try simp only[Oa1.F0]at*)
 all_goals(try simp only[Ja hlay,Jb hlay,Jc hlay]at*)
 all_goals(try have d1:=fun h=>xO (sp:=a6) (lg:=a7) (a:=ad) h)
 all_goals first|(show(_:List DV)=_;refine ah ?_;unfold hlB;simp[*];done)|(show(_:List DV)=_;refine ah ?_;unfold hlB;rw[decide_eq_false (p:=k<0) (by omega),cmp_eq];simp[*];done)|exact⟨hsw,hlw,hsl,hll,ad0,ad1⟩|(have e:=d1 (by assumption);(refine⟨by omega,by omega,(Rw.eta (by first|assumption|exact Rw.sub (by first|assumption|exact Rw.sub (by assumption) (by omega) rfl) (by omega) rfl) (by omega) (by omega)).trans ?_⟩;rfl))|done
namespace Oa2
structure Fns where
 hlB:List (List L)->List (List L)->Int->Int->Bool
 huI:List (List L)->Int->List (List L)
 ifL:List (List L)->List (List L)->List (List L)
 iaL:List (List L)->List (List L)->List (List L)
def F0 :Fns:=⟨hlB,huI,ifL,iaL⟩
def ct (F:Fns):CT:=fun f ds=>match f,ds with
 |97,[.agg [.s 1 b,.s 1 x]]=>some (fun _=>uV b x,[.one (.s 1 (F.ifL b x))])
 |225,[.one (.s 3 sp),.one (.s 3 lg)]=>some (fun _=>Rw [tI,tI,tI] sp/\Rw [tI,tI,tI] lg/\sp.length<=1073741824/\lg.length<=1073741824,[.one (.s 1 (F.iaL sp lg))])
 |_,_=>none
theorem ak :aW Tryz.prog (ct F0):=by
 intro f ds pre res h hp;unfold ct at h;split at h<;>(try split at h)<;>cases h
 exact ji _ _ hp;exact nu _ _ hp
def pt (F:Fns):PT:=fun f=>match f with
 | 224=>some fun ds=>match ds with
   |[.one (.v (.int .i64 ad)),.one (.v (.int .i64 k)),.mp [.own (.m false es)],.mp [.ro (.s 1 a0),.ro (.s 1 a1),.ro (.s 2 a2),.own (.v (.int .i64 a3)),.ro (.s 1 a4),.ro (.s 2 a5),.ro (.s 3 a6),.ro (.s 3 a7),.ro (.s 4 a8),.ro (.s 1 a9),.ro (.s 1 a10),.ro (.s 1 a11),.own (.v (.int .i64 a12)),.ro (.s 3 a13),.own (.v (.int .i64 a14)),.own (.v (.int .i64 a15)),.own (.v (.int .i64 a16)),.own (.v (.int .i64 a17)),.own (.v (.bool a18)),.own (.v (.int .i64 a19)),.own (.v (.int .i64 a20)),.ro (.s 1 a21),.own (.v (.int .i64 a22)),.own (.v (.int .i64 a23))]]=>some (fun _=>Rw [tI,tI,tI] a6/\Rw [tI,tI,tI] a7,[[.own (.m false (F.huI es ad))],[.ro (.s 1 a0),.ro (.s 1 a1),.ro (.s 2 a2),.own (.v (.int .i64 a3)),.ro (.s 1 a4),.ro (.s 2 a5),.ro (.s 3 a6),.ro (.s 3 a7),.ro (.s 4 a8),.ro (.s 1 a9),.ro (.s 1 a10),.ro (.s 1 a11),.own (.v (.int .i64 a12)),.ro (.s 3 a13),.own (.v (.int .i64 a14)),.own (.v (.int .i64 a15)),.own (.v (.int .i64 a16)),.own (.v (.int .i64 a17)),.own (.v (.bool a18)),.own (.v (.int .i64 a19)),.own (.v (.int .i64 a20)),.ro (.s 1 a21),.own (.v (.int .i64 a22)),.own (.v (.int .i64 a23))]],[.one (.v (.bool (F.hlB a6 a7 ad k)))])
   |_=>none
 |_=>none
theorem FR :vI Tryz.prog (pt F0):=by
 intro f mk h ds pre outs res hm hp;unfold pt at h;split at h
 ·cases h;dsimp only at hm;split at hm
  ·cases hm;exact lp _ _ _ _ _ _ _ _ _ _ _ _ _ _ _ _ _ _ _ _ _ _ _ _ _ _ _ hp
  ·cases hm
 ·cases h
def B :TB Tryz.prog:={Φ:=Fns,F0:=F0,ct:=ct,hc:=ak,pt:=pt,hp:=FR}
end Oa2
theorem nA (a0 a1 a2:List (List L))(a3:Int)(a4 a5 a6 a7 a8 a9 a10 a11:List (List L))(a12:Int)(a13:List (List L))(a14 a15 a16 a17:Int)(a18:Bool)(a19 a20:Int)(a21:List (List L))(a22 a23:Int)(hp:vG a6 a7 a8 a9 a10 a11 a13/\layOk a6 a7=true):aP Tryz.prog 150 [.agg [.s 1 a0,.s 1 a1,.s 2 a2,.v (.int .i64 a3),.s 1 a4,.s 2 a5,.s 3 a6,.s 3 a7,.s 4 a8,.s 1 a9,.s 1 a10,.s 1 a11,.v (.int .i64 a12),.s 3 a13,.v (.int .i64 a14),.v (.int .i64 a15),.v (.int .i64 a16),.v (.int .i64 a17),.v (.bool a18),.v (.int .i64 a19),.v (.int .i64 a20),.s 1 a21,.v (.int .i64 a22),.v (.int .i64 a23)]] [.one (.v (.bool (hoI a6 a7 a8 a9 a10 a11 a13 a15)))]:=by
 obtain⟨N,hlay⟩:=hp;have hsw:=N.sw;have hlw:=N.lw;have hsl:=N.sl;have hll:=N.ll;have how:=N.ow;have hol:=N.ol;have hcw:=N.cw;have hcl:=N.cl;have hqw:=N.qw;have hql:=N.ql;have hcc:=N.c;have hlc:=fy (es:=a9);have hfr:=xX N.m;have hfl:=sO (b:=a10) (x:=a11);have hlr:=N4 (sp:=a6) (lg:=a7);have hla:=EH (sp:=a6) (lg:=a7);refine ai Oa2.B ag mixed 114 _ [4] [.tmp 2] Tryz.func150 rfl rfl rfl rfl rfl ?_;intro O r (F:Oa2.Fns) hO hr (hF:F=Oa2.F0);cbv
 repeat' first|refine And.intro ?_ ?_|(refine aG (fun hb=>?_) (fun hb=>?_)<;>cbv)|(refine⟨[1,3,4,22,23,24],[1,3],Int×List (List L),fun s_=>match s_ with|(i,es)=>[.reg 24 (.one (.v (.int .i64 i))),.leaf 3 0 ⟨0,0,none,.own (.m false es)⟩],fun s_=>match s_ with|(i,es)=>0<=i/\i<=(a9.length:Int)/\MB a6 a7 a9 i es,fun s_=>match s_ with|(i,es)=>a9.length-i.toNat,⟨(0,[]),?_,?_⟩,?_⟩;rotate_left;(focus (cbv;done));intro s_ hi;obtain⟨i,es⟩:=s_;replace hi:0<=i/\i<=(a9.length:Int)/\MB a6 a7 a9 i es:=hi;obtain⟨i0,i1,i2⟩:=hi;cbv)|(refine⟨[1,3,4,22,23,24,29,30,31],[1,3],Int×List (List L),fun s_=>match s_ with|(k,es1)=>[.reg 31 (.one (.v (.int .i64 k))),.leaf 3 0 ⟨0,0,none,.own (.m false es1)⟩],fun s_=>match s_ with|(k,es1)=>0<=k/\k<=((ay a9 i 0).length:Int)/\MD a6 a7 a9 i k es1,fun s_=>match s_ with|(k,es1)=>(ay a9 i 0).length-k.toNat,⟨(0,es),?_,?_⟩,?_⟩;rotate_left;(focus (cbv;done));intro s_ hk;obtain⟨k,es1⟩:=s_;replace hk:0<=k/\k<=((ay a9 i 0).length:Int)/\MD a6 a7 a9 i k es1:=hk;obtain⟨k0,k1,k2⟩:=hk;cbv)|(refine⟨[1,3,4,7,22,23,24,29,30,31,36,37,38],[1,3],Int×List (List L),fun s_=>match s_ with|(j,es2)=>[.reg 38 (.one (.v (.int .i64 j))),.leaf 3 0 ⟨0,0,none,.own (.m false es2)⟩],fun s_=>match s_ with|(j,es2)=>0<=j/\j<=((ay (ay a9 i 0) k 0).length:Int)/\MC a6 a7 a9 i k j es2,fun s_=>match s_ with|(j,es2)=>(ay (ay a9 i 0) k 0).length-j.toNat,⟨(0,es1),?_,?_⟩,?_⟩;rotate_left;(focus (cbv;done));intro s_ hj;obtain⟨j,es2⟩:=s_;replace hj:0<=j/\j<=((ay (ay a9 i 0) k 0).length:Int)/\MC a6 a7 a9 i k j es2:=hj;obtain⟨j0,j1,j2⟩:=hj;cbv)|(refine⟨[1,3,4,52,53,54],[1,3],Int×List (List L),fun s_=>match s_ with|(q,es3)=>[.reg 54 (.one (.v (.int .i64 q))),.leaf 3 0 ⟨0,0,none,.own (.m false es3)⟩],fun s_=>match s_ with|(q,es3)=>0<=q/\q<=(a13.length:Int)/\ME a6 a7 a9 a13 a15 q es3,fun s_=>match s_ with|(q,es3)=>a13.length-q.toNat,⟨(0,es),?_,?_⟩,?_⟩;rotate_left;(focus (cbv;done));intro s_ hq;obtain⟨q,es3⟩:=s_;replace hq:0<=q/\q<=(a13.length:Int)/\ME a6 a7 a9 a13 a15 q es3:=hq;obtain⟨q0,q1,q2⟩:=hq;cbv)|(refine⟨[1,3,4,75,76,77],[1,3,75],Int×List (List L),fun s_=>match s_ with|(f,es4)=>[.reg 77 (.one (.v (.int .i64 f))),.leaf 3 0 ⟨0,0,none,.own (.m false es4)⟩],fun s_=>match s_ with|(f,es4)=>0<=f/\f<=((ifL a10 a11).length:Int)/\MA a6 a7 a9 a13 (ifL a10 a11) a15 f es4,fun s_=>match s_ with|(f,es4)=>(ifL a10 a11).length-f.toNat,⟨(0,es3),?_,?_⟩,?_⟩;rotate_left;(focus (cbv;done));intro s_ hf;obtain⟨f,es4⟩:=s_;replace hf:0<=f/\f<=((ifL a10 a11).length:Int)/\MA a6 a7 a9 a13 (ifL a10 a11) a15 f es4:=hf;obtain⟨f0,f1,f2⟩:=hf;cbv)|(refine⟨[1,3,87,88,89],[1,3],Int×List (List L),fun s_=>match s_ with|(p,es5)=>[.reg 89 (.one (.v (.int .i64 p))),.leaf 3 0 ⟨0,0,none,.own (.m false es5)⟩],fun s_=>match s_ with|(p,es5)=>0<=p/\p<=(a8.length:Int)/\KA a6 a7 a8 a9 a13 (ifL a10 a11) a15 p es5,fun s_=>match s_ with|(p,es5)=>a8.length-p.toNat,⟨(0,es4),?_,?_⟩,?_⟩;rotate_left;(focus (cbv;done));intro s_ hp;obtain⟨p,es5⟩:=s_;replace hp:0<=p/\p<=(a8.length:Int)/\KA a6 a7 a8 a9 a13 (ifL a10 a11) a15 p es5:=hp;obtain⟨p0,p1,p2⟩:=hp;cbv)|(refine⟨[3,103,104,105],[3,103],Int×List (List L),fun s_=>match s_ with|(t,es6)=>[.reg 105 (.one (.v (.int .i64 t))),.leaf 3 0 ⟨0,0,none,.own (.m false es6)⟩],fun s_=>match s_ with|(t,es6)=>0<=t/\t<=((iaL a6 a7).length:Int)/\IB a6 a7 a8 a9 a13 (ifL a10 a11) a15 t es6,fun s_=>match s_ with|(t,es6)=>(iaL a6 a7).length-t.toNat,⟨(0,es5),?_,?_⟩,?_⟩;rotate_left;(focus (cbv;done));intro s_ ht;obtain⟨t,es6⟩:=s_;replace ht:0<=t/\t<=((iaL a6 a7).length:Int)/\IB a6 a7 a8 a9 a13 (ifL a10 a11) a15 t es6:=ht;obtain⟨t0,t1,t2⟩:=ht;cbv)|(refine aa (O.ar .add .i64 j 1,F.huI es2 (O.gi (O.gs (O.gs a9 i 0) k 0) j 0)) ?_ ?_ ?_;rotate_left 2;focus (cbv;done))|(refine aa (O.ar .add .i64 k 1,es2) ?_ ?_ ?_;rotate_left 2;focus (cbv;done))|(refine aa (O.ar .add .i64 i 1,es1) ?_ ?_ ?_;rotate_left 2;focus (cbv;done))|(refine aa (O.ar .add .i64 t 1,es6) ?_ ?_ ?_;rotate_left 2;focus (cbv;done))|(refine aa (O.ar .add .i64 p 1,O.mu es5 (O.gi a8 p 1) (.v (.int .i64 (O.ar .add .i64 (O.mgi es5 (O.gi a8 p 1)) 1)))) ?_ ?_ ?_;rotate_left 2;focus (cbv;done))|(refine aa (O.ar .add .i64 f 1,F.huI es4 (O.pi (.s 1 (F.ifL a10 a11)) [(O.ad 0 f,0)])) ?_ ?_ ?_;rotate_left 2;focus (cbv;done))|(refine aa (O.ar .add .i64 q 1,F.huI es3 (O.gi a13 q 0)) ?_ ?_ ?_;rotate_left 2;focus (cbv;done))
 all_goals(subst hO hr hF;(try simp only[af,SS,sa,az]at*);(try simp only[nc]at*);(try simp only[aF]at*))
 all_goals(try simp only[Oa2.F0]at*)
 all_goals try rw[bD (by omega) (by omega)]
 all_goals(try simp only[fP f0]at*)
 all_goals(try simp only[fP t0,HJ]at*)
 all_goals(try have z8:aV .add .i64 t 1=t+1:=aB (by omega))
 all_goals(try simp only[z8]at*)
 all_goals(try have w6:=hcc.n i i0 (by assumption))
 all_goals(try have w7:=w6.el k0 (by assumption))
 all_goals(try have w8:=w7.1)
 all_goals(try have z6:aV .add .i64 k 1=k+1:=aB (by have:=w6.l;omega))
 all_goals(try simp only[z6]at*)
 all_goals(try have z7:aV .add .i64 j 1=j+1:=aB (by have:=w7.2;omega))
 all_goals(try simp only[z7]at*)
 all_goals first
  | (show(_:List DV)=_
     first
      |(refine ah ?_;symm;exact K8 i0 (by assumption) (NQ k0 (by assumption) j0 (by assumption) (by assumption)))
      |(refine ah ?_;symm;exact En q0 (by assumption) (Pp (by assumption)))
      |(refine ah ?_;symm;exact En q0 (by assumption) (Pq (by assumption)))
      |(refine ah ?_;symm;exact K9 f0 (by assumption) (by assumption))
      |(refine ah ?_;symm;exact Qq t2 t0 (by assumption) (by assumption))
      |(refine ah ?_;symm;exact K7 t2 (by omega))
      |done)
  |omega
  |(refine⟨by omega,by omega,(Rw.eta (by first|assumption|exact Rw.sub (by first|assumption|exact Rw.sub (by assumption) (by omega) rfl) (by omega) rfl) (by omega) (by omega)).trans ?_⟩;rfl)
  |exact⟨hsw,hlw⟩
  |exact⟨hsw,hlw,hsl,hll⟩
  |exact N.m
  |exact kZ hfr f0 (by assumption)
  |exact kZ hlr t0 (by assumption)
  |exact Nv j2 i0 (by assumption) k0 (by assumption) j0 (by assumption) hcl (by assumption)
  |exact Nw j2 k0 j1 (by omega)
  |exact Nu k2 i0 k1 (by omega)
  |exact Qn k2
  |exact Qo i2
  |exact Qm
  |exact Qv i2 i1 (by omega)
  |exact NO q2 q0 (by assumption) hcl hql (Q2 (by assumption) (by omega))
  |exact Ql q2 q1 (by omega)
  |exact Nt f2 f0 (by assumption) hcl hql hfl (by assumption)
  |exact Qr f2 f1 (by omega)
  |exact Nz p2 p0 (by assumption) hcl hql hol hfl
  |exact Qp p2 p1 (by omega)
  |exact Ny t2 (by assumption)
  |done
namespace Oa3
structure Fns where
 hlB:List (List L)->List (List L)->Int->Int->Bool
 ifL:List (List L)->List (List L)->List (List L)
 laL:List (List L)->List (List L)->List (List L)
 hasB:List (List L)->Int->Bool
def F0 :Fns:=⟨hlB,ifL,laL,hasB⟩
def ct (F:Fns):CT:=fun f ds=>match f,ds with
 |207,[.agg [.s 1 a0,.s 1 a1,.s 2 a2,.v (.int .i64 a3),.s 1 a4,.s 2 a5,.s 3 a6,.s 3 a7,.s 4 a8,.s 1 a9,.s 1 a10,.s 1 a11,.v (.int .i64 a12),.s 3 a13,.v (.int .i64 a14),.v (.int .i64 a15),.v (.int .i64 a16),.v (.int .i64 a17),.v (.bool a18),.v (.int .i64 a19),.v (.int .i64 a20),.s 1 a21,.v (.int .i64 a22),.v (.int .i64 a23)],.one (.v (.int .i64 ad)),.one (.v (.int .i64 k))]=>some (fun _=>vG a6 a7 a8 a9 a10 a11 a13/\layOk a6 a7=true/\ -9223372036854775808<=ad/\ad<=9223372036854775807,[.one (.v (.bool (F.hlB a6 a7 ad k)))])
 |90,[.agg [.s 1 b,.s 1 x]]=>some (fun _=>uV b x,[.one (.s 1 (F.ifL b x))])
 |208,[.one (.s 3 sp),.one (.s 3 lg)]=>some (fun _=>Rw [tI,tI,tI] sp/\Rw [tI,tI,tI] lg/\sp.length<=1073741824/\lg.length<=1073741824,[.one (.s 1 (F.laL sp lg))])
 |201,[.one (.s 1 l),.one (.v (.int .i64 x))]=>some (fun _=>Rw [tI] l,[.one (.v (.bool (F.hasB l x)))])
 |_,_=>none
theorem ak :aW Tryz.prog (ct F0):=by
 intro f ds pre res h hp;unfold ct at h;split at h<;>(try split at h)<;>cases h
 exact sj _ _ _ _ _ _ _ _ _ _ _ _ _ _ _ _ _ _ _ _ _ _ _ _ _ _ hp;exact jn _ _ hp;exact nQ _ _ hp;exact fu _ _ hp
def B :TB Tryz.prog:=tb ak
end Oa3
theorem si (a0 a1 a2:List (List L))(a3:Int)(a4 a5 a6 a7 a8 a9 a10 a11:List (List L))(a12:Int)(a13:List (List L))(a14 a15 a16 a17:Int)(a18:Bool)(a19 a20:Int)(a21:List (List L))(a22 a23:Int)(hp:vG a6 a7 a8 a9 a10 a11 a13/\layOk a6 a7=true):aP Tryz.prog 128 [.agg [.s 1 a0,.s 1 a1,.s 2 a2,.v (.int .i64 a3),.s 1 a4,.s 2 a5,.s 3 a6,.s 3 a7,.s 4 a8,.s 1 a9,.s 1 a10,.s 1 a11,.v (.int .i64 a12),.s 3 a13,.v (.int .i64 a14),.v (.int .i64 a15),.v (.int .i64 a16),.v (.int .i64 a17),.v (.bool a18),.v (.int .i64 a19),.v (.int .i64 a20),.s 1 a21,.v (.int .i64 a22),.v (.int .i64 a23)]] [.one (.v (.bool (hoS a6 a7 a8 a9 a10 a11 a13)))]:=by
 obtain⟨N,hlay⟩:=hp;have hsw:=N.sw;have hlw:=N.lw;have hsl:=N.sl;have hll:=N.ll;have how:=N.ow;have hol:=N.ol;have hcw:=N.cw;have hcl:=N.cl;have hqw:=N.qw;have hql:=N.ql;have hcc:=N.c;have hlc:=fy (es:=a9);have hfr:=xX N.m;have hfl:=sO (b:=a10) (x:=a11);refine ai Oa3.B ag mixed 159 _ [4] [.tmp 2] Tryz.func128 rfl rfl rfl rfl rfl ?_;intro O r (F:Oa3.Fns) hO hr (hF:F=Oa3.F0);cbv
 repeat' first|refine And.intro ?_ ?_|(refine aG (fun hb=>?_) (fun hb=>?_)<;>cbv)|(refine⟨[1,3,4],[1,3],Int×List (List L),fun s_=>match s_ with|(i,o)=>[.reg 4 (.one (.v (.int .i64 i))),.reg 3 (.one (.vw 3 0 0 0 (O.ln o))),.leaf 3 0 ⟨0,0,none,.own (.s 1 o)⟩],fun s_=>match s_ with|(i,o)=>0<=i/\i<=(a8.length:Int)/\KI a8 i o,fun s_=>match s_ with|(i,o)=>a8.length-i.toNat,⟨(0,[]),?_,?_⟩,?_⟩;rotate_left;(focus (cbv;done));intro s_ hi;obtain⟨i,o⟩:=s_;replace hi:0<=i/\i<=(a8.length:Int)/\KI a8 i o:=hi;obtain⟨i0,i1,i2⟩:=hi;cbv)|(refine⟨[1,3,5],[1,3],Int×List (List L),fun s_=>match s_ with|(j,o1)=>[.reg 5 (.one (.v (.int .i64 j))),.reg 3 (.one (.vw 3 0 0 0 (O.ln o1))),.leaf 3 0 ⟨0,0,none,.own (.s 1 o1)⟩],fun s_=>match s_ with|(j,o1)=>0<=j/\j<=(a9.length:Int)/\MN a6 a7 a8 a9 j o1,fun s_=>match s_ with|(j,o1)=>a9.length-j.toNat,⟨(0,o),?_,?_⟩,?_⟩;rotate_left;(focus (cbv;done));intro s_ hj;obtain⟨j,o1⟩:=s_;replace hj:0<=j/\j<=(a9.length:Int)/\MN a6 a7 a8 a9 j o1:=hj;obtain⟨j0,j1,j2⟩:=hj;cbv)|(refine⟨[1,3,5,6],[1,3],Int×List (List L),fun s_=>match s_ with|(k,o2)=>[.reg 6 (.one (.v (.int .i64 k))),.reg 3 (.one (.vw 3 0 0 0 (O.ln o2))),.leaf 3 0 ⟨0,0,none,.own (.s 1 o2)⟩],fun s_=>match s_ with|(k,o2)=>0<=k/\k<=((ay a9 j 0).length:Int)/\MO a6 a7 a8 a9 j k o2,fun s_=>match s_ with|(k,o2)=>(ay a9 j 0).length-k.toNat,⟨(0,o1),?_,?_⟩,?_⟩;rotate_left;(focus (cbv;done));intro s_ hk;obtain⟨k,o2⟩:=s_;replace hk:0<=k/\k<=((ay a9 j 0).length:Int)/\MO a6 a7 a8 a9 j k o2:=hk;obtain⟨k0,k1,k2⟩:=hk;cbv)|(refine⟨[1,3,5,6,7,8],[1,3],Int×List (List L),fun s_=>match s_ with|(m,o3)=>[.reg 8 (.one (.v (.int .i64 m))),.reg 3 (.one (.vw 3 0 0 0 (O.ln o3))),.leaf 3 0 ⟨0,0,none,.own (.s 1 o3)⟩],fun s_=>match s_ with|(m,o3)=>0<=m/\m<=((ay (ay a9 j 0) k 0).length:Int)/\KJ a6 a7 a8 a9 j k m o3,fun s_=>match s_ with|(m,o3)=>(ay (ay a9 j 0) k 0).length-m.toNat,⟨(0,o2),?_,?_⟩,?_⟩;rotate_left;(focus (cbv;done));intro s_ hm;obtain⟨m,o3⟩:=s_;replace hm:0<=m/\m<=((ay (ay a9 j 0) k 0).length:Int)/\KJ a6 a7 a8 a9 j k m o3:=hm;obtain⟨m0,m1,m2⟩:=hm;cbv)|(refine⟨[1,3,9],[1,3],Int×List (List L),fun s_=>match s_ with|(q,o4)=>[.reg 9 (.one (.v (.int .i64 q))),.reg 3 (.one (.vw 3 0 0 0 (O.ln o4))),.leaf 3 0 ⟨0,0,none,.own (.s 1 o4)⟩],fun s_=>match s_ with|(q,o4)=>0<=q/\q<=(a13.length:Int)/\KL a6 a7 a8 a9 a13 q o4,fun s_=>match s_ with|(q,o4)=>a13.length-q.toNat,⟨(0,o1),?_,?_⟩,?_⟩;rotate_left;(focus (cbv;done));intro s_ hq;obtain⟨q,o4⟩:=s_;replace hq:0<=q/\q<=(a13.length:Int)/\KL a6 a7 a8 a9 a13 q o4:=hq;obtain⟨q0,q1,q2⟩:=hq;cbv)|(refine⟨[1,3,10,11],[1,3,10],Int×List (List L),fun s_=>match s_ with|(f,o5)=>[.reg 11 (.one (.v (.int .i64 f))),.reg 3 (.one (.vw 3 0 0 0 (O.ln o5))),.leaf 3 0 ⟨0,0,none,.own (.s 1 o5)⟩],fun s_=>match s_ with|(f,o5)=>0<=f/\f<=((ifL a10 a11).length:Int)/\KM a6 a7 a8 a9 a13 (ifL a10 a11) f o5,fun s_=>match s_ with|(f,o5)=>(ifL a10 a11).length-f.toNat,⟨(0,o4),?_,?_⟩,?_⟩;rotate_left;(focus (cbv;done));intro s_ hf;obtain⟨f,o5⟩:=s_;replace hf:0<=f/\f<=((ifL a10 a11).length:Int)/\KM a6 a7 a8 a9 a13 (ifL a10 a11) f o5:=hf;obtain⟨f0,f1,f2⟩:=hf;cbv)|(refine⟨[1,3,12],[1,3],Int,fun t=>[.reg 12 (.one (.v (.int .i64 t)))],fun t=>0<=t/\t<=(o5.length:Int)/\G0 a6 a7 a8 a9 a13 (ifL a10 a11) t o5,fun t=>o5.length-t.toNat,⟨0,?_,?_⟩,?_⟩;rotate_left;(focus (cbv;done));intro t ht;replace ht:0<=t/\t<=(o5.length:Int)/\G0 a6 a7 a8 a9 a13 (ifL a10 a11) t o5:=ht;obtain⟨t0,t1,t2⟩:=ht;cbv)|(refine aa (O.ar .add .i64 m 1,O.cat o3 (O.sub [[.v (.int .i64 (O.gi (O.gs (O.gs a9 j 0) k 0) m 0))]] 0 (O.ln [[.v (.int .i64 (O.gi (O.gs (O.gs a9 j 0) k 0) m 0))]]))) ?_ ?_ ?_;rotate_left 2;focus (cbv;done))|(refine aa (O.ar .add .i64 k 1,o3) ?_ ?_ ?_;rotate_left 2;focus (cbv;done))|(refine aa (O.ar .add .i64 j 1,o2) ?_ ?_ ?_;rotate_left 2;focus (cbv;done))|(refine aa (O.ar .add .i64 t 1) ?_ ?_ ?_;rotate_left 2;focus (cbv;done))|(refine aa (O.ar .add .i64 f 1,O.cat o5 (O.sub [[.v (.int .i64 (O.pi (.s 1 (F.ifL a10 a11)) [(O.ad 0 f,0)]))]] 0 (O.ln [[.v (.int .i64 (O.pi (.s 1 (F.ifL a10 a11)) [(O.ad 0 f,0)]))]]))) ?_ ?_ ?_;rotate_left 2;focus (cbv;done))|(refine aa (O.ar .add .i64 q 1,O.cat o4 (O.sub [[.v (.int .i64 (O.gi a13 q 0))]] 0 (O.ln [[.v (.int .i64 (O.gi a13 q 0))]]))) ?_ ?_ ?_;rotate_left 2;focus (cbv;done))|(refine aa (O.ar .add .i64 i 1,O.cat o (O.sub [[.v (.int .i64 (O.gi a8 i 1))]] 0 (O.ln [[.v (.int .i64 (O.gi a8 i 1))]]))) ?_ ?_ ?_;rotate_left 2;focus (cbv;done))
 all_goals(subst hO hr hF;(try simp only[af,SS,sa,az]at*);(try simp only[nc]at*);(try simp only[aF]at*))
 all_goals(try simp only[Oa3.F0]at*)
 all_goals try rw[bD (by omega) (by omega)]
 all_goals(try simp only[fP f0]at*)
 all_goals(try simp only[fP t0]at*)
 all_goals(try simp only[tG]at*)
 all_goals(try have w6:=hcc.n j j0 (by assumption))
 all_goals(try have w7:=w6.el k0 (by assumption))
 all_goals(try have w8:=w7.1)
 all_goals(try have z6:aV .add .i64 k 1=k+1:=aB (by have:=w6.l;omega))
 all_goals(try simp only[z6]at*)
 all_goals(try have z7:aV .add .i64 m 1=m+1:=aB (by have:=w7.2;omega))
 all_goals(try simp only[z7]at*)
 all_goals(try have w1:=Q5 (by assumption))
 all_goals(try have w4:=Q9 m2 j0 (by assumption) k0 (by assumption) m0 (by omega) hcl hol)
 all_goals(try have w5:=Rb q2 (by omega) hcl hol hql)
 all_goals(try have w9:=Re f2 (by omega) hcl hol hql hfl)
 all_goals(try have wa:=PI t2 hcl hol hql hfl)
 all_goals(try have wb:=PL N t2)
 all_goals(try have z8:aV .add .i64 t 1=t+1:=aB (by omega))
 all_goals(try simp only[z8]at*)
 all_goals first
  | (show(_:List DV)=_
     first
      |(refine ah ?_;symm;exact Lb j0 (by assumption) (NQ k0 (by assumption) m0 (by assumption) (by assumption)))
      |(refine ah ?_;symm;exact Lc q0 (by assumption) (by assumption))
      |(refine ah ?_;symm;exact Ld f0 (by assumption) (by assumption))
      |(refine ah ?_;symm;exact Rh t2 t0 (by assumption) (by assumption))
      |(refine ah ?_;rw[cmp_eq];exact Ml t2 (by omega))
      |done)
  |omega
  |(refine⟨by omega,by omega,(Rw.eta (by first|assumption|exact Rw.sub (by first|assumption|exact Rw.sub (by assumption) (by omega) rfl) (by omega) rfl) (by omega) (by omega)).trans ?_⟩;rfl)
  |(show aK _ _=true;kernel_rfl)
  |exact⟨hsw,hlw,hsl,hll⟩
  |exact N.m
  |exact⟨N,hlay,sH (fs:=[tI]) w8 rfl (by omega)⟩
  |exact⟨N,hlay,sH hqw rfl (by omega)⟩
  |exact⟨N,hlay,sH hfr rfl (by omega)⟩
  |exact wb _
  |exact kZ hfr f0 (by assumption)
  |exact kZ (by have q:=wb o5.length;rwa [List.take_length]at q) t0 (by assumption)
  |(constructor<;>(simp only[List.length_cons,List.length_nil];omega))
  |exact PF m2 m0 (by assumption)
  |exact PE m2 k0 m1 (by omega)
  |exact PD k2 j0 k1 (by omega)
  |exact Q8 k2
  |exact Q7 j2
  |exact Q6 i2 i1 (by omega)
  |exact PC i2 i0
  |exact Q4
  |exact Ra j2 j1 (by omega)
  |exact PG q2 q0 (by assumption)
  |exact Rc q2 q1 (by omega)
  |exact PH f2 f0 (by assumption)
  |exact Rf f2 f1 (by omega)
  |exact PM t2 t0 (by assumption) (by assumption)
  |exact⟨True.intro,True.intro⟩
  |done
end Go.V