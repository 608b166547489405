/- Contracts. -/
import Derived.Test.YtbedjnlfdopeeaaGreatXLayNu
set_option linter.all false
open Go
open And renaming intro->Zb
open IntKind renaming i64->Za
open True renaming intro->Zk
namespace Go.V
open Go Go.Proofs
set_option maxRecDepth 1000000
set_option maxHeartbeats 8000000
namespace Oa1
structure aP where
 dnK:aa->aa->Int->Int
 dnI:aa->aa->Int->Int
 dnS:aa->Int->Int
 dnO:aa->aa->Int->Int
 dzK:aa->aa->Int->Int
 dzI:aa->aa->Int->Int
 dzS:aa->aa->Int->Int
 dzO:aa->aa->Int->Int
abbrev F0:aP:=⟨dnK,dnI,dnS,dnO,dzK,dzI,dzS,dzO⟩
def ct (F:aP):CT:=fun f ds=>match f,ds with
 |137,[.one (.s 3 sp),.one (.s 3 lg),.one (.v (.int Za a))]=>some (fun _=>Rw [tI,tI,tI] sp/\Rw [tI,tI,tI] lg,[.agg [.i (F.dnK sp lg a),.i (F.dnI sp lg a),.i (F.dnS sp a),.i (F.dnO sp lg a)]])
 |268,[.one (.s 3 sp),.one (.s 3 lg),.one (.v (.int Za a))]=>some (fun _=>Rw [tI,tI,tI] sp/\Rw [tI,tI,tI] lg/\sp.length<=1073741824/\lg.length<=1073741824/\ -9223372036854775808<=a/\a<=9223372036854775807,[.agg [.i (F.dzK sp lg a),.i (F.dzI sp lg a),.i (F.dzS sp lg a),.i (F.dzO sp lg a)]])
 |_,_=>none
theorem aj:aT (ct F0):=by
 intro f ds pre res h hp;unfold ct at h;split at h<;>cases h
 exact gu hp;exact gz hp
abbrev B:cF:=tb aj
end Oa1
theorem lT {ad k:Int}{es a0 a1 a2:aa}{a3:Int}{a4 a5 a6 a7 a8 a9 aA aB:aa}{aC:Int}{aD:aa}{aE aF aG aH:Int}{aI:Bool}{aJ aK:Int}{aL:aa}{aM aN:Int}(hp:Rw [tI,tI,tI] a6/\Rw [tI,tI,tI] a7):jV 235 [.j ad,.j k,.mp [.own (.m false es)],.mp [.ro (.s 1 a0),.ro (.s 1 a1),.ro (.s 2 a2),.own (.i a3),.ro (.s 1 a4),.ro (.s 2 a5),.ro (.s 3 a6),.ro (.s 3 a7),.ro (.s 4 a8),.ro (.s 1 a9),.ro (.s 1 aA),.ro (.s 1 aB),.own (.i aC),.ro (.s 3 aD),.own (.i aE),.own (.i aF),.own (.i aG),.own (.i aH),.own (.v (.bool aI)),.own (.i aJ),.own (.i aK),.ro (.s 1 aL),.own (.i aM),.own (.i aN)]] [[.own (.m false (huI es ad))],[.ro (.s 1 a0),.ro (.s 1 a1),.ro (.s 2 a2),.own (.i a3),.ro (.s 1 a4),.ro (.s 2 a5),.ro (.s 3 a6),.ro (.s 3 a7),.ro (.s 4 a8),.ro (.s 1 a9),.ro (.s 1 aA),.ro (.s 1 aB),.own (.i aC),.ro (.s 3 aD),.own (.i aE),.own (.i aF),.own (.i aG),.own (.i aH),.own (.v (.bool aI)),.own (.i aJ),.own (.i aK),.ro (.s 1 aL),.own (.i aM),.own (.i aN)]] [.k (hlB a6 a7 ad k)]:=by
 obtain⟨hsw,hlw⟩:=hp;refine pb Oa1.B Tryz.func235 ?_
 intro O r os F hO hr hos hF;cbv
 repeat' first|apply Zb|(apply bu<;>intro hb<;>cbv)
 all_goals((try subst hos);subst hO hr hF;(try simp only[nc]at*);(try simp only[ak,SS,sa,az]at*);(try have d1:=fun h=>CK (sp:=a6) (lg:=a7) (a:=ad) h))
 all_goals first|(show(_:List DV)=_;refine ai ?_;unfold hlB;simp[*];done)|(show(_:List DV)=_;refine ai ?_;unfold hlB;rw[aa1 (p:=k<0) (by omega),cmp_eq];simp[*];done)|(show(_:List H)=_;exact rfl)|exact⟨hsw,hlw⟩|(have e:=d1 (by assumption);exact eF)|done
theorem tU {a0 a1 a2:aa}{a3:Int}{a4 a5 a6 a7 a8 a9 aA aB:aa}{aC:Int}{aD:aa}{aE aF aG aH:Int}{aI:Bool}{aJ aK:Int}{aL:aa}{aM aN ad k:Int}(hp:zx a6 a7 a8 a9 aA aB aD/\layOk a6 a7=true/\ -9223372036854775808<=ad/\ad<=9223372036854775807):ap 269 [.agg (iF a0 a1 a2 a3 a4 a5 a6 a7 a8 a9 aA aB aC aD aE aF aG aH aI aJ aK aL aM aN),.j ad,.j k] [.k (hlB a6 a7 ad k)]:=by
 obtain⟨N,hlay,ad0,ad1⟩:=hp;have hsw:=N.sw;have hlw:=N.lw;have hsl:=N.sl;have hll:=N.ll;refine cb Oa1.B Tryz.func269 ?_
 intro O r F hO hr hF;cbv
 repeat' first|apply Zb|(apply bu<;>intro hb<;>cbv)
 all_goals(subst hO hr hF;(try simp only[nc]at*);(try simp only[ak,SS,sa,az]at*);(try simp only[J5 hlay,J6 hlay,J7 hlay]at*);(try have d1:=fun h=>CK (sp:=a6) (lg:=a7) (a:=ad) h))
 all_goals first|(show(_:List DV)=_;refine ai ?_;unfold hlB;simp[*];done)|(show(_:List DV)=_;refine ai ?_;unfold hlB;rw[aa1 (p:=k<0) (by omega),cmp_eq];simp[*];done)|exact⟨hsw,hlw,hsl,hll,ad0,ad1⟩|(have e:=d1 (by assumption);exact eF)|done
namespace Oa2
structure aP where
 hlB:aa->aa->Int->Int->Bool
 huI:aa->Int->aa
 ifL:aa->aa->aa
 iaL:aa->aa->aa
abbrev F0:aP:=⟨hlB,huI,ifL,iaL⟩
def ct (F:aP):CT:=fun f ds=>match f,ds with
 |236,[.agg [.s 1 b,.s 1 x]]=>some (fun _=>zy b x,[.one (.s 1 (F.ifL b x))])
 |237,[.one (.s 3 sp),.one (.s 3 lg)]=>some (fun _=>Rw [tI,tI,tI] sp/\Rw [tI,tI,tI] lg/\sp.length<=1073741824/\lg.length<=1073741824,[.one (.s 1 (F.iaL sp lg))])
 |_,_=>none
theorem aj:aT (ct F0):=by
 intro f ds pre res h hp;unfold ct at h;split at h<;>cases h
 exact qf hp;exact ou hp
def pt (F:aP):PT:=fun f=>match f with
 | 235=>some fun ds=>match ds with
   |[.one (.v (.int Za ad)),.one (.v (.int Za k)),.mp [.own (.m false es)],.mp [.ro (.s 1 a0),.ro (.s 1 a1),.ro (.s 2 a2),.own (.v (.int Za a3)),.ro (.s 1 a4),.ro (.s 2 a5),.ro (.s 3 a6),.ro (.s 3 a7),.ro (.s 4 a8),.ro (.s 1 a9),.ro (.s 1 aA),.ro (.s 1 aB),.own (.v (.int Za aC)),.ro (.s 3 aD),.own (.v (.int Za aE)),.own (.v (.int Za aF)),.own (.v (.int Za aG)),.own (.v (.int Za aH)),.own (.v (.bool aI)),.own (.v (.int Za aJ)),.own (.v (.int Za aK)),.ro (.s 1 aL),.own (.v (.int Za aM)),.own (.v (.int Za aN))]]=>some (fun _=>Rw [tI,tI,tI] a6/\Rw [tI,tI,tI] a7,[[.own (.m false (F.huI es ad))],[.ro (.s 1 a0),.ro (.s 1 a1),.ro (.s 2 a2),.own (.i a3),.ro (.s 1 a4),.ro (.s 2 a5),.ro (.s 3 a6),.ro (.s 3 a7),.ro (.s 4 a8),.ro (.s 1 a9),.ro (.s 1 aA),.ro (.s 1 aB),.own (.i aC),.ro (.s 3 aD),.own (.i aE),.own (.i aF),.own (.i aG),.own (.i aH),.own (.v (.bool aI)),.own (.i aJ),.own (.i aK),.ro (.s 1 aL),.own (.i aM),.own (.i aN)]],[.k (F.hlB a6 a7 ad k)])
   |_=>none
 |_=>none
theorem gJ:pE (pt F0):=by
 intro f mk h ds pre outs res hm hp;unfold pt at h;split at h
 ·cases h;dsimp only at hm;split at hm
  ·cases hm;exact lT hp
  ·cases hm
 ·cases h
abbrev B:cF:={Φ:=aP,F0:=F0,ct:=ct,hc:=aj,pt:=pt,hp:=gJ}
end Oa2
theorem oB {a0 a1 a2:aa}{a3:Int}{a4 a5 a6 a7 a8 a9 aA aB:aa}{aC:Int}{aD:aa}{aE aF aG aH:Int}{aI:Bool}{aJ aK:Int}{aL:aa}{aM aN:Int}(hp:zx a6 a7 a8 a9 aA aB aD/\layOk a6 a7=true):ap 132 [.agg (iF a0 a1 a2 a3 a4 a5 a6 a7 a8 a9 aA aB aC aD aE aF aG aH aI aJ aK aL aM aN)] [.k (hoI a6 a7 a8 a9 aA aB aD aF)]:=by
 obtain⟨N,hlay⟩:=hp;have hsw:=N.sw;have hlw:=N.lw;have hsl:=N.sl;have hll:=N.ll;have how:=N.ow;have hol:=N.ol;have hcw:=N.cw;have hcl:=N.cl;have hqw:=N.qw;have hql:=N.ql;have hcc:=N.c;have hlc:=aO (es:=a9);have hfr:=FL N.m;have hfl:=BD (b:=aA) (x:=aB);have hlr:=Qf (sp:=a6) (lg:=a7);have hla:=FY (sp:=a6) (lg:=a7);refine cb Oa2.B Tryz.func132 ?_
 intro O r F hO hr hF;cbv
 repeat' first|apply Zb|(apply bu<;>intro hb<;>cbv)|(refine⟨[1,3,4,22,23,24],[1,3],Int×aa,fun s_=>match s_ with|(i,es)=>[.reg 24 (.j i),.leaf 3 0 ⟨0,0,none,.own (.m false es)⟩],fun s_=>match s_ with|(i,es)=>0<=i/\i<=(a9.length:Int)/\Oa a6 a7 a9 i es,fun s_=>match s_ with|(i,es)=>a9.length-i.toNat,⟨(0,[]),?_,?_⟩,?_⟩;rotate_left;(focus (cbv;done));intro s_ hi;obtain⟨i,es⟩:=s_;replace hi:0<=i/\i<=(a9.length:Int)/\Oa a6 a7 a9 i es:=hi;obtain⟨i0,i1,i2⟩:=hi;cbv)|(refine⟨[1,3,4,22,23,24,29,30,31],[1,3],Int×aa,fun s_=>match s_ with|(k,es1)=>[.reg 31 (.j k),.leaf 3 0 ⟨0,0,none,.own (.m false es1)⟩],fun s_=>match s_ with|(k,es1)=>0<=k/\k<=((aR a9 i 0).length:Int)/\Oc a6 a7 a9 i k es1,fun s_=>match s_ with|(k,es1)=>(aR a9 i 0).length-k.toNat,⟨(0,es),?_,?_⟩,?_⟩;rotate_left;(focus (cbv;done));intro s_ hk;obtain⟨k,es1⟩:=s_;replace hk:0<=k/\k<=((aR a9 i 0).length:Int)/\Oc a6 a7 a9 i k es1:=hk;obtain⟨k0,k1,k2⟩:=hk;cbv)|(refine⟨[1,3,4,7,22,23,24,29,30,31,36,37,38],[1,3],Int×aa,fun s_=>match s_ with|(j,es2)=>[.reg 38 (.j j),.leaf 3 0 ⟨0,0,none,.own (.m false es2)⟩],fun s_=>match s_ with|(j,es2)=>0<=j/\j<=((aR (aR a9 i 0) k 0).length:Int)/\Ob a6 a7 a9 i k j es2,fun s_=>match s_ with|(j,es2)=>(aR (aR a9 i 0) k 0).length-j.toNat,⟨(0,es1),?_,?_⟩,?_⟩;rotate_left;(focus (cbv;done));intro s_ hj;obtain⟨j,es2⟩:=s_;replace hj:0<=j/\j<=((aR (aR a9 i 0) k 0).length:Int)/\Ob a6 a7 a9 i k j es2:=hj;obtain⟨j0,j1,j2⟩:=hj;cbv)|(refine⟨[1,3,4,52,53,54],[1,3],Int×aa,fun s_=>match s_ with|(q,es3)=>[.reg 54 (.j q),.leaf 3 0 ⟨0,0,none,.own (.m false es3)⟩],fun s_=>match s_ with|(q,es3)=>0<=q/\q<=(aD.length:Int)/\Od a6 a7 a9 aD aF q es3,fun s_=>match s_ with|(q,es3)=>aD.length-q.toNat,⟨(0,es),?_,?_⟩,?_⟩;rotate_left;(focus (cbv;done));intro s_ hq;obtain⟨q,es3⟩:=s_;replace hq:0<=q/\q<=(aD.length:Int)/\Od a6 a7 a9 aD aF q es3:=hq;obtain⟨q0,q1,q2⟩:=hq;cbv)|(refine⟨[1,3,4,75,76,77],[1,3,75],Int×aa,fun s_=>match s_ with|(f,es4)=>[.reg 77 (.j f),.leaf 3 0 ⟨0,0,none,.own (.m false es4)⟩],fun s_=>match s_ with|(f,es4)=>0<=f/\f<=((ifL aA aB).length:Int)/\N9 a6 a7 a9 aD (ifL aA aB) aF f es4,fun s_=>match s_ with|(f,es4)=>(ifL aA aB).length-f.toNat,⟨(0,es3),?_,?_⟩,?_⟩;rotate_left;(focus (cbv;done));intro s_ hf;obtain⟨f,es4⟩:=s_;replace hf:0<=f/\f<=((ifL aA aB).length:Int)/\N9 a6 a7 a9 aD (ifL aA aB) aF f es4:=hf;obtain⟨f0,f1,f2⟩:=hf;cbv)|(refine⟨[1,3,87,88,89],[1,3],Int×aa,fun s_=>match s_ with|(p,es5)=>[.reg 89 (.j p),.leaf 3 0 ⟨0,0,none,.own (.m false es5)⟩],fun s_=>match s_ with|(p,es5)=>0<=p/\p<=(a8.length:Int)/\Lr a6 a7 a8 a9 aD (ifL aA aB) aF p es5,fun s_=>match s_ with|(p,es5)=>a8.length-p.toNat,⟨(0,es4),?_,?_⟩,?_⟩;rotate_left;(focus (cbv;done));intro s_ hp;obtain⟨p,es5⟩:=s_;replace hp:0<=p/\p<=(a8.length:Int)/\Lr a6 a7 a8 a9 aD (ifL aA aB) aF p es5:=hp;obtain⟨p0,p1,p2⟩:=hp;cbv)|(refine⟨[3,103,104,105],[3,103],Int×aa,fun s_=>match s_ with|(t,es6)=>[.reg 105 (.j t),.leaf 3 0 ⟨0,0,none,.own (.m false es6)⟩],fun s_=>match s_ with|(t,es6)=>0<=t/\t<=((iaL a6 a7).length:Int)/\JG a6 a7 a8 a9 aD (ifL aA aB) aF t es6,fun s_=>match s_ with|(t,es6)=>(iaL a6 a7).length-t.toNat,⟨(0,es5),?_,?_⟩,?_⟩;rotate_left;(focus (cbv;done));intro s_ ht;obtain⟨t,es6⟩:=s_;replace ht:0<=t/\t<=((iaL a6 a7).length:Int)/\JG a6 a7 a8 a9 aD (ifL aA aB) aF t es6:=ht;obtain⟨t0,t1,t2⟩:=ht;cbv)|(refine ab (O.ar .add Za j 1,F.huI es2 (O.gi (O.gs (O.gs a9 i 0) k 0) j 0)) ?_ ?_ ?_;focus (cbv;done))|(refine ab (O.ar .add Za k 1,es2) ?_ ?_ ?_;focus (cbv;done))|(refine ab (O.ar .add Za i 1,es1) ?_ ?_ ?_;focus (cbv;done))|(refine ab (O.ar .add Za t 1,es6) ?_ ?_ ?_;focus (cbv;done))|(refine ab (O.ar .add Za p 1,O.mu es5 (O.gi a8 p 1) (.i (O.ar .add Za (O.mgi es5 (O.gi a8 p 1)) 1))) ?_ ?_ ?_;focus (cbv;done))|(refine ab (O.ar .add Za f 1,F.huI es4 (O.pi (.s 1 (F.ifL aA aB)) [(O.ad 0 f,0)])) ?_ ?_ ?_;focus (cbv;done))|(refine ab (O.ar .add Za q 1,F.huI es3 (O.gi aD q 0)) ?_ ?_ ?_;focus (cbv;done))
 all_goals(subst hO hr hF;(try simp only[nc]at*);(try simp only[ak,SS,sa,az]at*);(try rw[cy (by omega) (by omega)]);(try simp only[o6 f0]at*);(try simp only[o6 t0,IL]at*);(try have z8:bK .add Za t 1=t+1:=bh (by omega));(try simp only[z8]at*);(try have w6:=hcc.n i i0 (by assumption));(try have w7:=w6.el k0 (by assumption));(try have w8:=w7.1);(try have z6:bK .add Za k 1=k+1:=bh (by have:=w6.l;omega));(try simp only[z6]at*);(try have z7:bK .add Za j 1=j+1:=bh (by have:=w7.2;omega));(try simp only[z7]at*))
 all_goals first
  | (show(_:List DV)=_
     first
      |(refine ai ?_;symm;exact Mm i0 (by assumption) (PU k0 (by assumption) j0 (by assumption) (by assumption)))
      |(refine ai ?_;symm;exact Fz q0 (by assumption) (Rq (by assumption)))
      |(refine ai ?_;symm;exact Fz q0 (by assumption) (Rr (by assumption)))
      |(refine ai ?_;symm;exact Mn f0 (by assumption) (by assumption))
      |(refine ai ?_;symm;exact TR t2 t0 (by assumption) (by assumption))
      |(refine ai ?_;symm;exact Mk t2 (by omega))
      |done)
  |omega
  |exact eF
  |exact⟨hsw,hlw⟩
  |exact⟨hsw,hlw,hsl,hll⟩
  |exact N.m
  |exact xA hfr f0 (by assumption)
  |exact xA hlr t0 (by assumption)
  |exact Pu j2 i0 (by assumption) k0 (by assumption) j0 (by assumption) hcl (by assumption)
  |exact Pv j2 k0 j1 (by omega)
  |exact Ps k2 i0 k1 (by omega)
  |exact TO k2
  |exact TP i2
  |exact TN
  |exact TX i2 i1 (by omega)
  |exact PS q2 q0 (by assumption) hcl hql (UE (by assumption) (by omega))
  |exact TM q2 q1 (by omega)
  |exact Pq f2 f0 (by assumption) hcl hql hfl (by assumption)
  |exact TS f2 f1 (by omega)
  |exact Py p2 p0 (by assumption) hcl hql hol hfl
  |exact TQ p2 p1 (by omega)
  |exact Px t2 (by assumption)
  |done
namespace Oa3
structure aP where
 hlB:aa->aa->Int->Int->Bool
 ifL:aa->aa->aa
 laL:aa->aa->aa
 hasB:aa->Int->Bool
abbrev F0:aP:=⟨hlB,ifL,laL,hasB⟩
def ct (F:aP):CT:=fun f ds=>match f,ds with
 |269,[.agg [.s 1 a0,.s 1 a1,.s 2 a2,.v (.int Za a3),.s 1 a4,.s 2 a5,.s 3 a6,.s 3 a7,.s 4 a8,.s 1 a9,.s 1 aA,.s 1 aB,.v (.int Za aC),.s 3 aD,.v (.int Za aE),.v (.int Za aF),.v (.int Za aG),.v (.int Za aH),.v (.bool aI),.v (.int Za aJ),.v (.int Za aK),.s 1 aL,.v (.int Za aM),.v (.int Za aN)],.one (.v (.int Za ad)),.one (.v (.int Za k))]=>some (fun _=>zx a6 a7 a8 a9 aA aB aD/\layOk a6 a7=true/\ -9223372036854775808<=ad/\ad<=9223372036854775807,[.k (F.hlB a6 a7 ad k)])
 |270,[.agg [.s 1 b,.s 1 x]]=>some (fun _=>zy b x,[.one (.s 1 (F.ifL b x))])
 |271,[.one (.s 3 sp),.one (.s 3 lg)]=>some (fun _=>Rw [tI,tI,tI] sp/\Rw [tI,tI,tI] lg/\sp.length<=1073741824/\lg.length<=1073741824,[.one (.s 1 (F.laL sp lg))])
 |260,[.one (.s 1 l),.one (.v (.int Za x))]=>some (fun _=>Rw [tI] l,[.k (F.hasB l x)])
 |_,_=>none
theorem aj:aT (ct F0):=by
 intro f ds pre res h hp;unfold ct at h;split at h<;>cases h
 exact tU hp;exact ry hp;exact oO hp;exact fw hp
abbrev B:cF:=tb aj
end Oa3
theorem tT {a0 a1 a2:aa}{a3:Int}{a4 a5 a6 a7 a8 a9 aA aB:aa}{aC:Int}{aD:aa}{aE aF aG aH:Int}{aI:Bool}{aJ aK:Int}{aL:aa}{aM aN:Int}(hp:zx a6 a7 a8 a9 aA aB aD/\layOk a6 a7=true):ap 173 [.agg (iF a0 a1 a2 a3 a4 a5 a6 a7 a8 a9 aA aB aC aD aE aF aG aH aI aJ aK aL aM aN)] [.k (hoS a6 a7 a8 a9 aA aB aD)]:=by
 obtain⟨N,hlay⟩:=hp;have hsw:=N.sw;have hlw:=N.lw;have hsl:=N.sl;have hll:=N.ll;have how:=N.ow;have hol:=N.ol;have hcw:=N.cw;have hcl:=N.cl;have hqw:=N.qw;have hql:=N.ql;have hcc:=N.c;have hlc:=aO (es:=a9);have hfr:=FL N.m;have hfl:=BD (b:=aA) (x:=aB);refine cb Oa3.B Tryz.func173 ?_
 intro O r F hO hr hF;cbv
 repeat' first|apply Zb|(apply bu<;>intro hb<;>cbv)|(refine⟨[1,3,4],[1,3],Int×aa,fun s_=>match s_ with|(i,o)=>[.reg 4 (.j i),.reg 3 (.one (.vw 3 0 0 0 (O.ln o))),.leaf 3 0 ⟨0,0,none,.own (.s 1 o)⟩],fun s_=>match s_ with|(i,o)=>0<=i/\i<=(a8.length:Int)/\LC a8 i o,fun s_=>match s_ with|(i,o)=>a8.length-i.toNat,⟨(0,[]),?_,?_⟩,?_⟩;rotate_left;(focus (cbv;done));intro s_ hi;obtain⟨i,o⟩:=s_;replace hi:0<=i/\i<=(a8.length:Int)/\LC a8 i o:=hi;obtain⟨i0,i1,i2⟩:=hi;cbv)|(refine⟨[1,3,5],[1,3],Int×aa,fun s_=>match s_ with|(j,o1)=>[.reg 5 (.j j),.reg 3 (.one (.vw 3 0 0 0 (O.ln o1))),.leaf 3 0 ⟨0,0,none,.own (.s 1 o1)⟩],fun s_=>match s_ with|(j,o1)=>0<=j/\j<=(a9.length:Int)/\Ol a6 a7 a8 a9 j o1,fun s_=>match s_ with|(j,o1)=>a9.length-j.toNat,⟨(0,o),?_,?_⟩,?_⟩;rotate_left;(focus (cbv;done));intro s_ hj;obtain⟨j,o1⟩:=s_;replace hj:0<=j/\j<=(a9.length:Int)/\Ol a6 a7 a8 a9 j o1:=hj;obtain⟨j0,j1,j2⟩:=hj;cbv)|(refine⟨[1,3,5,6],[1,3],Int×aa,fun s_=>match s_ with|(k,o2)=>[.reg 6 (.j k),.reg 3 (.one (.vw 3 0 0 0 (O.ln o2))),.leaf 3 0 ⟨0,0,none,.own (.s 1 o2)⟩],fun s_=>match s_ with|(k,o2)=>0<=k/\k<=((aR a9 j 0).length:Int)/\Om a6 a7 a8 a9 j k o2,fun s_=>match s_ with|(k,o2)=>(aR a9 j 0).length-k.toNat,⟨(0,o1),?_,?_⟩,?_⟩;rotate_left;(focus (cbv;done));intro s_ hk;obtain⟨k,o2⟩:=s_;replace hk:0<=k/\k<=((aR a9 j 0).length:Int)/\Om a6 a7 a8 a9 j k o2:=hk;obtain⟨k0,k1,k2⟩:=hk;cbv)|(refine⟨[1,3,5,6,7,8],[1,3],Int×aa,fun s_=>match s_ with|(m,o3)=>[.reg 8 (.j m),.reg 3 (.one (.vw 3 0 0 0 (O.ln o3))),.leaf 3 0 ⟨0,0,none,.own (.s 1 o3)⟩],fun s_=>match s_ with|(m,o3)=>0<=m/\m<=((aR (aR a9 j 0) k 0).length:Int)/\LD a6 a7 a8 a9 j k m o3,fun s_=>match s_ with|(m,o3)=>(aR (aR a9 j 0) k 0).length-m.toNat,⟨(0,o2),?_,?_⟩,?_⟩;rotate_left;(focus (cbv;done));intro s_ hm;obtain⟨m,o3⟩:=s_;replace hm:0<=m/\m<=((aR (aR a9 j 0) k 0).length:Int)/\LD a6 a7 a8 a9 j k m o3:=hm;obtain⟨m0,m1,m2⟩:=hm;cbv)|(refine⟨[1,3,9],[1,3],Int×aa,fun s_=>match s_ with|(q,o4)=>[.reg 9 (.j q),.reg 3 (.one (.vw 3 0 0 0 (O.ln o4))),.leaf 3 0 ⟨0,0,none,.own (.s 1 o4)⟩],fun s_=>match s_ with|(q,o4)=>0<=q/\q<=(aD.length:Int)/\LE a6 a7 a8 a9 aD q o4,fun s_=>match s_ with|(q,o4)=>aD.length-q.toNat,⟨(0,o1),?_,?_⟩,?_⟩;rotate_left;(focus (cbv;done));intro s_ hq;obtain⟨q,o4⟩:=s_;replace hq:0<=q/\q<=(aD.length:Int)/\LE a6 a7 a8 a9 aD q o4:=hq;obtain⟨q0,q1,q2⟩:=hq;cbv)|(refine⟨[1,3,10,11],[1,3,10],Int×aa,fun s_=>match s_ with|(f,o5)=>[.reg 11 (.j f),.reg 3 (.one (.vw 3 0 0 0 (O.ln o5))),.leaf 3 0 ⟨0,0,none,.own (.s 1 o5)⟩],fun s_=>match s_ with|(f,o5)=>0<=f/\f<=((ifL aA aB).length:Int)/\LF a6 a7 a8 a9 aD (ifL aA aB) f o5,fun s_=>match s_ with|(f,o5)=>(ifL aA aB).length-f.toNat,⟨(0,o4),?_,?_⟩,?_⟩;rotate_left;(focus (cbv;done));intro s_ hf;obtain⟨f,o5⟩:=s_;replace hf:0<=f/\f<=((ifL aA aB).length:Int)/\LF a6 a7 a8 a9 aD (ifL aA aB) f o5:=hf;obtain⟨f0,f1,f2⟩:=hf;cbv)|(refine⟨[1,3,12],[1,3],Int,fun t=>[.reg 12 (.j t)],fun t=>0<=t/\t<=(o5.length:Int)/\HW a6 a7 a8 a9 aD (ifL aA aB) t o5,fun t=>o5.length-t.toNat,⟨0,?_,?_⟩,?_⟩;rotate_left;(focus (cbv;done));intro t ht;replace ht:0<=t/\t<=(o5.length:Int)/\HW a6 a7 a8 a9 aD (ifL aA aB) t o5:=ht;obtain⟨t0,t1,t2⟩:=ht;cbv)|(refine ab (O.ar .add Za m 1,O.cat o3 (O.sub [[.i (O.gi (O.gs (O.gs a9 j 0) k 0) m 0)]] 0 (O.ln [[.i (O.gi (O.gs (O.gs a9 j 0) k 0) m 0)]]))) ?_ ?_ ?_;focus (cbv;done))|(refine ab (O.ar .add Za k 1,o3) ?_ ?_ ?_;focus (cbv;done))|(refine ab (O.ar .add Za j 1,o2) ?_ ?_ ?_;focus (cbv;done))|(refine ab (O.ar .add Za t 1) ?_ ?_ ?_;focus (cbv;done))|(refine ab (O.ar .add Za f 1,O.cat o5 (O.sub [[.i (O.pi (.s 1 (F.ifL aA aB)) [(O.ad 0 f,0)])]] 0 (O.ln [[.i (O.pi (.s 1 (F.ifL aA aB)) [(O.ad 0 f,0)])]]))) ?_ ?_ ?_;focus (cbv;done))|(refine ab (O.ar .add Za q 1,O.cat o4 (O.sub [[.i (O.gi aD q 0)]] 0 (O.ln [[.i (O.gi aD q 0)]]))) ?_ ?_ ?_;focus (cbv;done))|(refine ab (O.ar .add Za i 1,O.cat o (O.sub [[.i (O.gi a8 i 1)]] 0 (O.ln [[.i (O.gi a8 i 1)]]))) ?_ ?_ ?_;focus (cbv;done))
 all_goals(subst hO hr hF;(try simp only[nc]at*);(try simp only[ak,SS,sa,az]at*);(try rw[cy (by omega) (by omega)]);(try simp only[o6 f0]at*);(try simp only[o6 t0]at*);(try simp only[vp]at*);(try have w6:=hcc.n j j0 (by assumption));(try have w7:=w6.el k0 (by assumption));(try have w8:=w7.1);(try have z6:bK .add Za k 1=k+1:=bh (by have:=w6.l;omega));(try simp only[z6]at*);(try have z7:bK .add Za m 1=m+1:=bh (by have:=w7.2;omega));(try simp only[z7]at*);(try have w1:=UJ (by assumption));(try have w4:=UN m2 j0 (by assumption) k0 (by assumption) m0 (by omega) hcl hol);(try have w5:=UP q2 (by omega) hcl hol hql);(try have w9:=UR f2 (by omega) hcl hol hql hfl);(try have wa:=RJ t2 hcl hol hql hfl);(try have wb:=RL N t2);(try have z8:bK .add Za t 1=t+1:=bh (by omega));(try simp only[z8]at*))
 all_goals first
  | (show(_:List DV)=_
     first
      |(refine ai ?_;symm;exact Mp j0 (by assumption) (PU k0 (by assumption) m0 (by assumption) (by assumption)))
      |(refine ai ?_;symm;exact Mq q0 (by assumption) (by assumption))
      |(refine ai ?_;symm;exact Mr f0 (by assumption) (by assumption))
      |(refine ai ?_;symm;exact UT t2 t0 (by assumption) (by assumption))
      |(refine ai ?_;rw[cmp_eq];exact NG t2 (by omega))
      |done)
  |omega
  |exact eF
  |(show aV _ _=true;kernel_rfl)
  |exact⟨hsw,hlw,hsl,hll⟩
  |exact N.m
  |exact⟨N,hlay,uv (fs:=[tI]) w8 rfl (by omega)⟩
  |exact⟨N,hlay,uv hqw rfl (by omega)⟩
  |exact⟨N,hlay,uv hfr rfl (by omega)⟩
  |exact wb _
  |exact xA hfr f0 (by assumption)
  |exact xA (by have q:=wb o5.length;rwa [List.take_length]at q) t0 (by assumption)
  |(constructor<;>(simp only[List.length_cons,List.length_nil];omega))
  |exact RG m2 m0 (by assumption)
  |exact RF m2 k0 m1 (by omega)
  |exact RE k2 j0 k1 (by omega)
  |exact UM k2
  |exact UL j2
  |exact UK i2 i1 (by omega)
  |exact RD i2 i0
  |exact UI
  |exact UO j2 j1 (by omega)
  |exact RH q2 q0 (by assumption)
  |exact UQ q2 q1 (by omega)
  |exact RI f2 f0 (by assumption)
  |exact US f2 f1 (by omega)
  |exact RN t2 t0 (by assumption) (by assumption)
  |exact⟨Zk,Zk⟩
  |done
end Go.V