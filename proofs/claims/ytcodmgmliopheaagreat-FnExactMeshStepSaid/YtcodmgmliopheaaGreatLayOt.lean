/- Contracts. -/
import Derived.Test.YtcodmgmliopheaaGreatLayNt
set_option linter.all false
open Go
open And renaming intro->AT
open True renaming intro->VT
namespace Go.V
open Go Go.Proofs
set_option maxRecDepth 1000000
set_option maxHeartbeats 8000000
namespace Oa1
structure aQ where
 dnK:aa->aa->Int->Int
 dnI:aa->aa->Int->Int
 dnS:aa->Int->Int
 dnO:aa->aa->Int->Int
 dzK:aa->aa->Int->Int
 dzI:aa->aa->Int->Int
 dzS:aa->aa->Int->Int
 dzO:aa->aa->Int->Int
abbrev F0 :aQ:=⟨dnK,dnI,dnS,dnO,dzK,dzI,dzS,dzO⟩
def ct (F:aQ):CT:=fun f ds=>match f,ds with
 |216,[.one (.s 3 sp),.one (.s 3 lg),.one (.v (.int .i64 a))]=>some (fun _=>Rw [tI,tI,tI] sp/\Rw [tI,tI,tI] lg,[.agg [.i (F.dnK sp lg a),.i (F.dnI sp lg a),.i (F.dnS sp a),.i (F.dnO sp lg a)]])
 |274,[.one (.s 3 sp),.one (.s 3 lg),.one (.v (.int .i64 a))]=>some (fun _=>Rw [tI,tI,tI] sp/\Rw [tI,tI,tI] lg/\sp.length<=1073741824/\lg.length<=1073741824/\ -9223372036854775808<=a/\a<=9223372036854775807,[.agg [.i (F.dzK sp lg a),.i (F.dzI sp lg a),.i (F.dzS sp lg a),.i (F.dzO sp lg a)]])
 |_,_=>none
theorem aj :aR (ct F0):=by
 intro f ds pre res h hp;unfold ct at h;split at h<;>cases h
 exact ko hp;exact gw hp
abbrev B :cy:=tb aj
end Oa1
theorem l9 {ad k:Int}{es a0 a1 a2:aa}{a3:Int}{a4 a5 a6 a7 a8 a9 aA aB:aa}{aC:Int}{aD:aa}{aE aF aG aH:Int}{aI:Bool}{aJ aK:Int}{aL:aa}{aM aN:Int}(hp:Rw [tI,tI,tI] a6/\Rw [tI,tI,tI] a7):j7 293 [.j ad,.j k,.mp [.own (.m false es)],.mp [.ro (.s 1 a0),.ro (.s 1 a1),.ro (.s 2 a2),.own (.i a3),.ro (.s 1 a4),.ro (.s 2 a5),.ro (.s 3 a6),.ro (.s 3 a7),.ro (.s 4 a8),.ro (.s 1 a9),.ro (.s 1 aA),.ro (.s 1 aB),.own (.i aC),.ro (.s 3 aD),.own (.i aE),.own (.i aF),.own (.i aG),.own (.i aH),.own (.v (.bool aI)),.own (.i aJ),.own (.i aK),.ro (.s 1 aL),.own (.i aM),.own (.i aN)]] [[.own (.m false (huI es ad))],[.ro (.s 1 a0),.ro (.s 1 a1),.ro (.s 2 a2),.own (.i a3),.ro (.s 1 a4),.ro (.s 2 a5),.ro (.s 3 a6),.ro (.s 3 a7),.ro (.s 4 a8),.ro (.s 1 a9),.ro (.s 1 aA),.ro (.s 1 aB),.own (.i aC),.ro (.s 3 aD),.own (.i aE),.own (.i aF),.own (.i aG),.own (.i aH),.own (.v (.bool aI)),.own (.i aJ),.own (.i aK),.ro (.s 1 aL),.own (.i aM),.own (.i aN)]] [.k (hlB a6 a7 ad k)]:=by
 obtain⟨hsw,hlw⟩:=hp;refine pb Oa1.B Tryz.func293 ?_
 intro O r os F hO hr hos hF;cbv
 repeat' first|apply AT|(apply bi<;>intro hb<;>cbv)
 all_goals((try subst hos);subst hO hr hF;(try simp only[nc]at*);(try simp only[ah,SS,sa,az]at*);(try have d1:=fun h=>C3 (sp:=a6) (lg:=a7) (a:=ad) h))
 all_goals first|(show(_:List DV)=_;refine ai ?_;unfold hlB;simp[*];done)|(show(_:List DV)=_;refine ai ?_;unfold hlB;rw[decide_eq_false (p:=k<0) (by omega),cmp_eq];simp[*];done)|(show(_:List H)=_;exact rfl)|exact⟨hsw,hlw⟩|(have e:=d1 (by assumption);exact fe)|done
theorem uq {a0 a1 a2:aa}{a3:Int}{a4 a5 a6 a7 a8 a9 aA aB:aa}{aC:Int}{aD:aa}{aE aF aG aH:Int}{aI:Bool}{aJ aK:Int}{aL:aa}{aM aN ad k:Int}(hp:zZ a6 a7 a8 a9 aA aB aD/\layOk a6 a7=true/\ -9223372036854775808<=ad/\ad<=9223372036854775807):aw 275 [.agg (ji a0 a1 a2 a3 a4 a5 a6 a7 a8 a9 aA aB aC aD aE aF aG aH aI aJ aK aL aM aN),.j ad,.j k] [.k (hlB a6 a7 ad k)]:=by
 obtain⟨N,hlay,ad0,ad1⟩:=hp;have hsw:=N.sw;have hlw:=N.lw;have hsl:=N.sl;have hll:=N.ll;refine cb Oa1.B Tryz.func275 ?_
 intro O r F hO hr hF;cbv
 repeat' first|apply AT|(apply bi<;>intro hb<;>cbv)
 all_goals(subst hO hr hF;(try simp only[nc]at*);(try simp only[ah,SS,sa,az]at*);(try simp only[JL hlay,JM hlay,JN hlay]at*);(try have d1:=fun h=>C3 (sp:=a6) (lg:=a7) (a:=ad) h))
 all_goals first|(show(_:List DV)=_;refine ai ?_;unfold hlB;simp[*];done)|(show(_:List DV)=_;refine ai ?_;unfold hlB;rw[decide_eq_false (p:=k<0) (by omega),cmp_eq];simp[*];done)|exact⟨hsw,hlw,hsl,hll,ad0,ad1⟩|(have e:=d1 (by assumption);exact fe)|done
namespace Oa2
structure aQ where
 hlB:aa->aa->Int->Int->Bool
 huI:aa->Int->aa
 ifL:aa->aa->aa
 iaL:aa->aa->aa
abbrev F0 :aQ:=⟨hlB,huI,ifL,iaL⟩
def ct (F:aQ):CT:=fun f ds=>match f,ds with
 |294,[.agg [.s 1 b,.s 1 x]]=>some (fun _=>Aa b x,[.one (.s 1 (F.ifL b x))])
 |295,[.one (.s 3 sp),.one (.s 3 lg)]=>some (fun _=>Rw [tI,tI,tI] sp/\Rw [tI,tI,tI] lg/\sp.length<=1073741824/\lg.length<=1073741824,[.one (.s 1 (F.iaL sp lg))])
 |_,_=>none
theorem aj :aR (ct F0):=by
 intro f ds pre res h hp;unfold ct at h;split at h<;>cases h
 exact qH hp;exact oW hp
def pt (F:aQ):PT:=fun f=>match f with
 | 293=>some fun ds=>match ds with
   |[.one (.v (.int .i64 ad)),.one (.v (.int .i64 k)),.mp [.own (.m false es)],.mp [.ro (.s 1 a0),.ro (.s 1 a1),.ro (.s 2 a2),.own (.v (.int .i64 a3)),.ro (.s 1 a4),.ro (.s 2 a5),.ro (.s 3 a6),.ro (.s 3 a7),.ro (.s 4 a8),.ro (.s 1 a9),.ro (.s 1 aA),.ro (.s 1 aB),.own (.v (.int .i64 aC)),.ro (.s 3 aD),.own (.v (.int .i64 aE)),.own (.v (.int .i64 aF)),.own (.v (.int .i64 aG)),.own (.v (.int .i64 aH)),.own (.v (.bool aI)),.own (.v (.int .i64 aJ)),.own (.v (.int .i64 aK)),.ro (.s 1 aL),.own (.v (.int .i64 aM)),.own (.v (.int .i64 aN))]]=>some (fun _=>Rw [tI,tI,tI] a6/\Rw [tI,tI,tI] a7,[[.own (.m false (F.huI es ad))],[.ro (.s 1 a0),.ro (.s 1 a1),.ro (.s 2 a2),.own (.i a3),.ro (.s 1 a4),.ro (.s 2 a5),.ro (.s 3 a6),.ro (.s 3 a7),.ro (.s 4 a8),.ro (.s 1 a9),.ro (.s 1 aA),.ro (.s 1 aB),.own (.i aC),.ro (.s 3 aD),.own (.i aE),.own (.i aF),.own (.i aG),.own (.i aH),.own (.v (.bool aI)),.own (.i aJ),.own (.i aK),.ro (.s 1 aL),.own (.i aM),.own (.i aN)]],[.k (F.hlB a6 a7 ad k)])
   |_=>none
 |_=>none
theorem iO :sR (pt F0):=by
 intro f mk h ds pre outs res hm hp;unfold pt at h;split at h
 ·cases h;dsimp only at hm;split at hm
  ·cases hm;exact l9 hp
  ·cases hm
 ·cases h
abbrev B :cy:={Φ:=aQ,F0:=F0,ct:=ct,hc:=aj,pt:=pt,hp:=iO}
end Oa2
theorem oZ {a0 a1 a2:aa}{a3:Int}{a4 a5 a6 a7 a8 a9 aA aB:aa}{aC:Int}{aD:aa}{aE aF aG aH:Int}{aI:Bool}{aJ aK:Int}{aL:aa}{aM aN:Int}(hp:zZ a6 a7 a8 a9 aA aB aD/\layOk a6 a7=true):aw 174 [.agg (ji a0 a1 a2 a3 a4 a5 a6 a7 a8 a9 aA aB aC aD aE aF aG aH aI aJ aK aL aM aN)] [.k (hoI a6 a7 a8 a9 aA aB aD aF)]:=by
 obtain⟨N,hlay⟩:=hp;have hsw:=N.sw;have hlw:=N.lw;have hsl:=N.sl;have hll:=N.ll;have how:=N.ow;have hol:=N.ol;have hcw:=N.cw;have hcl:=N.cl;have hqw:=N.qw;have hql:=N.ql;have hcc:=N.c;have hlc:=aU (es:=a9);have hfr:=FL N.m;have hfl:=BZ (b:=aA) (x:=aB);have hlr:=Pg (sp:=a6) (lg:=a7);have hla:=FZ (sp:=a6) (lg:=a7);refine cb Oa2.B Tryz.func174 ?_
 intro O r F hO hr hF;cbv
 repeat' first|apply AT|(apply bi<;>intro hb<;>cbv)|(refine⟨[1,3,4,22,23,24],[1,3],Int×aa,fun s_=>match s_ with|(i,es)=>[.reg 24 (.j i),.leaf 3 0 ⟨0,0,none,.own (.m false es)⟩],fun s_=>match s_ with|(i,es)=>0<=i/\i<=(a9.length:Int)/\Nw a6 a7 a9 i es,fun s_=>match s_ with|(i,es)=>a9.length-i.toNat,⟨(0,[]),?_,?_⟩,?_⟩;rotate_left;(focus (cbv;done));intro s_ hi;obtain⟨i,es⟩:=s_;replace hi:0<=i/\i<=(a9.length:Int)/\Nw a6 a7 a9 i es:=hi;obtain⟨i0,i1,i2⟩:=hi;cbv)|(refine⟨[1,3,4,22,23,24,29,30,31],[1,3],Int×aa,fun s_=>match s_ with|(k,es1)=>[.reg 31 (.j k),.leaf 3 0 ⟨0,0,none,.own (.m false es1)⟩],fun s_=>match s_ with|(k,es1)=>0<=k/\k<=((aO a9 i 0).length:Int)/\Ny a6 a7 a9 i k es1,fun s_=>match s_ with|(k,es1)=>(aO a9 i 0).length-k.toNat,⟨(0,es),?_,?_⟩,?_⟩;rotate_left;(focus (cbv;done));intro s_ hk;obtain⟨k,es1⟩:=s_;replace hk:0<=k/\k<=((aO a9 i 0).length:Int)/\Ny a6 a7 a9 i k es1:=hk;obtain⟨k0,k1,k2⟩:=hk;cbv)|(refine⟨[1,3,4,7,22,23,24,29,30,31,36,37,38],[1,3],Int×aa,fun s_=>match s_ with|(j,es2)=>[.reg 38 (.j j),.leaf 3 0 ⟨0,0,none,.own (.m false es2)⟩],fun s_=>match s_ with|(j,es2)=>0<=j/\j<=((aO (aO a9 i 0) k 0).length:Int)/\Nx a6 a7 a9 i k j es2,fun s_=>match s_ with|(j,es2)=>(aO (aO a9 i 0) k 0).length-j.toNat,⟨(0,es1),?_,?_⟩,?_⟩;rotate_left;(focus (cbv;done));intro s_ hj;obtain⟨j,es2⟩:=s_;replace hj:0<=j/\j<=((aO (aO a9 i 0) k 0).length:Int)/\Nx a6 a7 a9 i k j es2:=hj;obtain⟨j0,j1,j2⟩:=hj;cbv)|(refine⟨[1,3,4,52,53,54],[1,3],Int×aa,fun s_=>match s_ with|(q,es3)=>[.reg 54 (.j q),.leaf 3 0 ⟨0,0,none,.own (.m false es3)⟩],fun s_=>match s_ with|(q,es3)=>0<=q/\q<=(aD.length:Int)/\Nz a6 a7 a9 aD aF q es3,fun s_=>match s_ with|(q,es3)=>aD.length-q.toNat,⟨(0,es),?_,?_⟩,?_⟩;rotate_left;(focus (cbv;done));intro s_ hq;obtain⟨q,es3⟩:=s_;replace hq:0<=q/\q<=(aD.length:Int)/\Nz a6 a7 a9 aD aF q es3:=hq;obtain⟨q0,q1,q2⟩:=hq;cbv)|(refine⟨[1,3,4,75,76,77],[1,3,75],Int×aa,fun s_=>match s_ with|(f,es4)=>[.reg 77 (.j f),.leaf 3 0 ⟨0,0,none,.own (.m false es4)⟩],fun s_=>match s_ with|(f,es4)=>0<=f/\f<=((ifL aA aB).length:Int)/\Nv a6 a7 a9 aD (ifL aA aB) aF f es4,fun s_=>match s_ with|(f,es4)=>(ifL aA aB).length-f.toNat,⟨(0,es3),?_,?_⟩,?_⟩;rotate_left;(focus (cbv;done));intro s_ hf;obtain⟨f,es4⟩:=s_;replace hf:0<=f/\f<=((ifL aA aB).length:Int)/\Nv a6 a7 a9 aD (ifL aA aB) aF f es4:=hf;obtain⟨f0,f1,f2⟩:=hf;cbv)|(refine⟨[1,3,87,88,89],[1,3],Int×aa,fun s_=>match s_ with|(p,es5)=>[.reg 89 (.j p),.leaf 3 0 ⟨0,0,none,.own (.m false es5)⟩],fun s_=>match s_ with|(p,es5)=>0<=p/\p<=(a8.length:Int)/\KZ a6 a7 a8 a9 aD (ifL aA aB) aF p es5,fun s_=>match s_ with|(p,es5)=>a8.length-p.toNat,⟨(0,es4),?_,?_⟩,?_⟩;rotate_left;(focus (cbv;done));intro s_ hp;obtain⟨p,es5⟩:=s_;replace hp:0<=p/\p<=(a8.length:Int)/\KZ a6 a7 a8 a9 aD (ifL aA aB) aF p es5:=hp;obtain⟨p0,p1,p2⟩:=hp;cbv)|(refine⟨[3,103,104,105],[3,103],Int×aa,fun s_=>match s_ with|(t,es6)=>[.reg 105 (.j t),.leaf 3 0 ⟨0,0,none,.own (.m false es6)⟩],fun s_=>match s_ with|(t,es6)=>0<=t/\t<=((iaL a6 a7).length:Int)/\Jo a6 a7 a8 a9 aD (ifL aA aB) aF t es6,fun s_=>match s_ with|(t,es6)=>(iaL a6 a7).length-t.toNat,⟨(0,es5),?_,?_⟩,?_⟩;rotate_left;(focus (cbv;done));intro s_ ht;obtain⟨t,es6⟩:=s_;replace ht:0<=t/\t<=((iaL a6 a7).length:Int)/\Jo a6 a7 a8 a9 aD (ifL aA aB) aF t es6:=ht;obtain⟨t0,t1,t2⟩:=ht;cbv)|(refine ab (O.ar .add .i64 j 1,F.huI es2 (O.gi (O.gs (O.gs a9 i 0) k 0) j 0)) ?_ ?_ ?_;focus (cbv;done))|(refine ab (O.ar .add .i64 k 1,es2) ?_ ?_ ?_;focus (cbv;done))|(refine ab (O.ar .add .i64 i 1,es1) ?_ ?_ ?_;focus (cbv;done))|(refine ab (O.ar .add .i64 t 1,es6) ?_ ?_ ?_;focus (cbv;done))|(refine ab (O.ar .add .i64 p 1,O.mu es5 (O.gi a8 p 1) (.i (O.ar .add .i64 (O.mgi es5 (O.gi a8 p 1)) 1))) ?_ ?_ ?_;focus (cbv;done))|(refine ab (O.ar .add .i64 f 1,F.huI es4 (O.pi (.s 1 (F.ifL aA aB)) [(O.ad 0 f,0)])) ?_ ?_ ?_;focus (cbv;done))|(refine ab (O.ar .add .i64 q 1,F.huI es3 (O.gi aD q 0)) ?_ ?_ ?_;focus (cbv;done))
 all_goals(subst hO hr hF;(try simp only[nc]at*);(try simp only[ah,SS,sa,az]at*);(try rw[cE (by omega) (by omega)]);(try simp only[jx f0]at*);(try simp only[jx t0,Iq]at*);(try have z8:bJ .add .i64 t 1=t+1:=bB (by omega));(try simp only[z8]at*);(try have w6:=hcc.n i i0 (by assumption));(try have w7:=w6.el k0 (by assumption));(try have w8:=w7.1);(try have z6:bJ .add .i64 k 1=k+1:=bB (by have:=w6.l;omega));(try simp only[z6]at*);(try have z7:bJ .add .i64 j 1=j+1:=bB (by have:=w7.2;omega));(try simp only[z7]at*))
 all_goals first
  | (show(_:List DV)=_
     first
      |(refine ai ?_;symm;exact LJ i0 (by assumption) (OV k0 (by assumption) j0 (by assumption) (by assumption)))
      |(refine ai ?_;symm;exact FB q0 (by assumption) (Qz (by assumption)))
      |(refine ai ?_;symm;exact FB q0 (by assumption) (QA (by assumption)))
      |(refine ai ?_;symm;exact LK f0 (by assumption) (by assumption))
      |(refine ai ?_;symm;exact Sl t2 t0 (by assumption) (by assumption))
      |(refine ai ?_;symm;exact LI t2 (by omega))
      |done)
  |omega
  |exact fe
  |exact⟨hsw,hlw⟩
  |exact⟨hsw,hlw,hsl,hll⟩
  |exact N.m
  |exact xZ hfr f0 (by assumption)
  |exact xZ hlr t0 (by assumption)
  |exact Oz j2 i0 (by assumption) k0 (by assumption) j0 (by assumption) hcl (by assumption)
  |exact OA j2 k0 j1 (by omega)
  |exact Oy k2 i0 k1 (by omega)
  |exact Si k2
  |exact Sj i2
  |exact Sg
  |exact SC i2 i1 (by omega)
  |exact OS q2 q0 (by assumption) hcl hql (TO (by assumption) (by omega))
  |exact Sf q2 q1 (by omega)
  |exact Ox f2 f0 (by assumption) hcl hql hfl (by assumption)
  |exact Sn f2 f1 (by omega)
  |exact OD p2 p0 (by assumption) hcl hql hol hfl
  |exact Sk p2 p1 (by omega)
  |exact OC t2 (by assumption)
  |done
namespace Oa3
structure aQ where
 hlB:aa->aa->Int->Int->Bool
 ifL:aa->aa->aa
 laL:aa->aa->aa
 hasB:aa->Int->Bool
abbrev F0 :aQ:=⟨hlB,ifL,laL,hasB⟩
def ct (F:aQ):CT:=fun f ds=>match f,ds with
 |275,[.agg [.s 1 a0,.s 1 a1,.s 2 a2,.v (.int .i64 a3),.s 1 a4,.s 2 a5,.s 3 a6,.s 3 a7,.s 4 a8,.s 1 a9,.s 1 aA,.s 1 aB,.v (.int .i64 aC),.s 3 aD,.v (.int .i64 aE),.v (.int .i64 aF),.v (.int .i64 aG),.v (.int .i64 aH),.v (.bool aI),.v (.int .i64 aJ),.v (.int .i64 aK),.s 1 aL,.v (.int .i64 aM),.v (.int .i64 aN)],.one (.v (.int .i64 ad)),.one (.v (.int .i64 k))]=>some (fun _=>zZ a6 a7 a8 a9 aA aB aD/\layOk a6 a7=true/\ -9223372036854775808<=ad/\ad<=9223372036854775807,[.k (F.hlB a6 a7 ad k)])
 |276,[.agg [.s 1 b,.s 1 x]]=>some (fun _=>Aa b x,[.one (.s 1 (F.ifL b x))])
 |277,[.one (.s 3 sp),.one (.s 3 lg)]=>some (fun _=>Rw [tI,tI,tI] sp/\Rw [tI,tI,tI] lg/\sp.length<=1073741824/\lg.length<=1073741824,[.one (.s 1 (F.laL sp lg))])
 |266,[.one (.s 1 l),.one (.v (.int .i64 x))]=>some (fun _=>Rw [tI] l,[.k (F.hasB l x)])
 |_,_=>none
theorem aj :aR (ct F0):=by
 intro f ds pre res h hp;unfold ct at h;split at h<;>cases h
 exact uq hp;exact rQ hp;exact pp hp;exact eB hp
abbrev B :cy:=tb aj
end Oa3
theorem uo {a0 a1 a2:aa}{a3:Int}{a4 a5 a6 a7 a8 a9 aA aB:aa}{aC:Int}{aD:aa}{aE aF aG aH:Int}{aI:Bool}{aJ aK:Int}{aL:aa}{aM aN:Int}(hp:zZ a6 a7 a8 a9 aA aB aD/\layOk a6 a7=true):aw 143 [.agg (ji a0 a1 a2 a3 a4 a5 a6 a7 a8 a9 aA aB aC aD aE aF aG aH aI aJ aK aL aM aN)] [.k (hoS a6 a7 a8 a9 aA aB aD)]:=by
 obtain⟨N,hlay⟩:=hp;have hsw:=N.sw;have hlw:=N.lw;have hsl:=N.sl;have hll:=N.ll;have how:=N.ow;have hol:=N.ol;have hcw:=N.cw;have hcl:=N.cl;have hqw:=N.qw;have hql:=N.ql;have hcc:=N.c;have hlc:=aU (es:=a9);have hfr:=FL N.m;have hfl:=BZ (b:=aA) (x:=aB);refine cb Oa3.B Tryz.func143 ?_
 intro O r F hO hr hF;cbv
 repeat' first|apply AT|(apply bi<;>intro hb<;>cbv)|(refine⟨[1,3,4],[1,3],Int×aa,fun s_=>match s_ with|(i,o)=>[.reg 4 (.j i),.reg 3 (.one (.vw 3 0 0 0 (O.ln o))),.leaf 3 0 ⟨0,0,none,.own (.s 1 o)⟩],fun s_=>match s_ with|(i,o)=>0<=i/\i<=(a8.length:Int)/\K9 a8 i o,fun s_=>match s_ with|(i,o)=>a8.length-i.toNat,⟨(0,[]),?_,?_⟩,?_⟩;rotate_left;(focus (cbv;done));intro s_ hi;obtain⟨i,o⟩:=s_;replace hi:0<=i/\i<=(a8.length:Int)/\K9 a8 i o:=hi;obtain⟨i0,i1,i2⟩:=hi;cbv)|(refine⟨[1,3,5],[1,3],Int×aa,fun s_=>match s_ with|(j,o1)=>[.reg 5 (.j j),.reg 3 (.one (.vw 3 0 0 0 (O.ln o1))),.leaf 3 0 ⟨0,0,none,.own (.s 1 o1)⟩],fun s_=>match s_ with|(j,o1)=>0<=j/\j<=(a9.length:Int)/\NH a6 a7 a8 a9 j o1,fun s_=>match s_ with|(j,o1)=>a9.length-j.toNat,⟨(0,o),?_,?_⟩,?_⟩;rotate_left;(focus (cbv;done));intro s_ hj;obtain⟨j,o1⟩:=s_;replace hj:0<=j/\j<=(a9.length:Int)/\NH a6 a7 a8 a9 j o1:=hj;obtain⟨j0,j1,j2⟩:=hj;cbv)|(refine⟨[1,3,5,6],[1,3],Int×aa,fun s_=>match s_ with|(k,o2)=>[.reg 6 (.j k),.reg 3 (.one (.vw 3 0 0 0 (O.ln o2))),.leaf 3 0 ⟨0,0,none,.own (.s 1 o2)⟩],fun s_=>match s_ with|(k,o2)=>0<=k/\k<=((aO a9 j 0).length:Int)/\NI a6 a7 a8 a9 j k o2,fun s_=>match s_ with|(k,o2)=>(aO a9 j 0).length-k.toNat,⟨(0,o1),?_,?_⟩,?_⟩;rotate_left;(focus (cbv;done));intro s_ hk;obtain⟨k,o2⟩:=s_;replace hk:0<=k/\k<=((aO a9 j 0).length:Int)/\NI a6 a7 a8 a9 j k o2:=hk;obtain⟨k0,k1,k2⟩:=hk;cbv)|(refine⟨[1,3,5,6,7,8],[1,3],Int×aa,fun s_=>match s_ with|(m,o3)=>[.reg 8 (.j m),.reg 3 (.one (.vw 3 0 0 0 (O.ln o3))),.leaf 3 0 ⟨0,0,none,.own (.s 1 o3)⟩],fun s_=>match s_ with|(m,o3)=>0<=m/\m<=((aO (aO a9 j 0) k 0).length:Int)/\La a6 a7 a8 a9 j k m o3,fun s_=>match s_ with|(m,o3)=>(aO (aO a9 j 0) k 0).length-m.toNat,⟨(0,o2),?_,?_⟩,?_⟩;rotate_left;(focus (cbv;done));intro s_ hm;obtain⟨m,o3⟩:=s_;replace hm:0<=m/\m<=((aO (aO a9 j 0) k 0).length:Int)/\La a6 a7 a8 a9 j k m o3:=hm;obtain⟨m0,m1,m2⟩:=hm;cbv)|(refine⟨[1,3,9],[1,3],Int×aa,fun s_=>match s_ with|(q,o4)=>[.reg 9 (.j q),.reg 3 (.one (.vw 3 0 0 0 (O.ln o4))),.leaf 3 0 ⟨0,0,none,.own (.s 1 o4)⟩],fun s_=>match s_ with|(q,o4)=>0<=q/\q<=(aD.length:Int)/\Lb a6 a7 a8 a9 aD q o4,fun s_=>match s_ with|(q,o4)=>aD.length-q.toNat,⟨(0,o1),?_,?_⟩,?_⟩;rotate_left;(focus (cbv;done));intro s_ hq;obtain⟨q,o4⟩:=s_;replace hq:0<=q/\q<=(aD.length:Int)/\Lb a6 a7 a8 a9 aD q o4:=hq;obtain⟨q0,q1,q2⟩:=hq;cbv)|(refine⟨[1,3,10,11],[1,3,10],Int×aa,fun s_=>match s_ with|(f,o5)=>[.reg 11 (.j f),.reg 3 (.one (.vw 3 0 0 0 (O.ln o5))),.leaf 3 0 ⟨0,0,none,.own (.s 1 o5)⟩],fun s_=>match s_ with|(f,o5)=>0<=f/\f<=((ifL aA aB).length:Int)/\Lc a6 a7 a8 a9 aD (ifL aA aB) f o5,fun s_=>match s_ with|(f,o5)=>(ifL aA aB).length-f.toNat,⟨(0,o4),?_,?_⟩,?_⟩;rotate_left;(focus (cbv;done));intro s_ hf;obtain⟨f,o5⟩:=s_;replace hf:0<=f/\f<=((ifL aA aB).length:Int)/\Lc a6 a7 a8 a9 aD (ifL aA aB) f o5:=hf;obtain⟨f0,f1,f2⟩:=hf;cbv)|(refine⟨[1,3,12],[1,3],Int,fun t=>[.reg 12 (.j t)],fun t=>0<=t/\t<=(o5.length:Int)/\HH a6 a7 a8 a9 aD (ifL aA aB) t o5,fun t=>o5.length-t.toNat,⟨0,?_,?_⟩,?_⟩;rotate_left;(focus (cbv;done));intro t ht;replace ht:0<=t/\t<=(o5.length:Int)/\HH a6 a7 a8 a9 aD (ifL aA aB) t o5:=ht;obtain⟨t0,t1,t2⟩:=ht;cbv)|(refine ab (O.ar .add .i64 m 1,O.cat o3 (O.sub [[.i (O.gi (O.gs (O.gs a9 j 0) k 0) m 0)]] 0 (O.ln [[.i (O.gi (O.gs (O.gs a9 j 0) k 0) m 0)]]))) ?_ ?_ ?_;focus (cbv;done))|(refine ab (O.ar .add .i64 k 1,o3) ?_ ?_ ?_;focus (cbv;done))|(refine ab (O.ar .add .i64 j 1,o2) ?_ ?_ ?_;focus (cbv;done))|(refine ab (O.ar .add .i64 t 1) ?_ ?_ ?_;focus (cbv;done))|(refine ab (O.ar .add .i64 f 1,O.cat o5 (O.sub [[.i (O.pi (.s 1 (F.ifL aA aB)) [(O.ad 0 f,0)])]] 0 (O.ln [[.i (O.pi (.s 1 (F.ifL aA aB)) [(O.ad 0 f,0)])]]))) ?_ ?_ ?_;focus (cbv;done))|(refine ab (O.ar .add .i64 q 1,O.cat o4 (O.sub [[.i (O.gi aD q 0)]] 0 (O.ln [[.i (O.gi aD q 0)]]))) ?_ ?_ ?_;focus (cbv;done))|(refine ab (O.ar .add .i64 i 1,O.cat o (O.sub [[.i (O.gi a8 i 1)]] 0 (O.ln [[.i (O.gi a8 i 1)]]))) ?_ ?_ ?_;focus (cbv;done))
 all_goals(subst hO hr hF;(try simp only[nc]at*);(try simp only[ah,SS,sa,az]at*);(try rw[cE (by omega) (by omega)]);(try simp only[jx f0]at*);(try simp only[jx t0]at*);(try simp only[vL]at*);(try have w6:=hcc.n j j0 (by assumption));(try have w7:=w6.el k0 (by assumption));(try have w8:=w7.1);(try have z6:bJ .add .i64 k 1=k+1:=bB (by have:=w6.l;omega));(try simp only[z6]at*);(try have z7:bJ .add .i64 m 1=m+1:=bB (by have:=w7.2;omega));(try simp only[z7]at*);(try have w1:=TT (by assumption));(try have w4:=TX m2 j0 (by assumption) k0 (by assumption) m0 (by omega) hcl hol);(try have w5:=TZ q2 (by omega) hcl hol hql);(try have w9:=T3 f2 (by omega) hcl hol hql hfl);(try have wa:=QM t2 hcl hol hql hfl);(try have wb:=QN N t2);(try have z8:bJ .add .i64 t 1=t+1:=bB (by omega));(try simp only[z8]at*))
 all_goals first
  | (show(_:List DV)=_
     first
      |(refine ai ?_;symm;exact LM j0 (by assumption) (OV k0 (by assumption) m0 (by assumption) (by assumption)))
      |(refine ai ?_;symm;exact LN q0 (by assumption) (by assumption))
      |(refine ai ?_;symm;exact LO f0 (by assumption) (by assumption))
      |(refine ai ?_;symm;exact T5 t2 t0 (by assumption) (by assumption))
      |(refine ai ?_;rw[cmp_eq];exact Na t2 (by omega))
      |done)
  |omega
  |exact fe
  |(show aV _ _=true;kernel_rfl)
  |exact⟨hsw,hlw,hsl,hll⟩
  |exact N.m
  |exact⟨N,hlay,xN (fs:=[tI]) w8 rfl (by omega)⟩
  |exact⟨N,hlay,xN hqw rfl (by omega)⟩
  |exact⟨N,hlay,xN hfr rfl (by omega)⟩
  |exact wb _
  |exact xZ hfr f0 (by assumption)
  |exact xZ (by have q:=wb o5.length;rwa [List.take_length]at q) t0 (by assumption)
  |(constructor<;>(simp only[List.length_cons,List.length_nil];omega))
  |exact QJ m2 m0 (by assumption)
  |exact QI m2 k0 m1 (by omega)
  |exact QH k2 j0 k1 (by omega)
  |exact TW k2
  |exact TV j2
  |exact TU i2 i1 (by omega)
  |exact QG i2 i0
  |exact TS
  |exact TY j2 j1 (by omega)
  |exact QK q2 q0 (by assumption)
  |exact T0 q2 q1 (by omega)
  |exact QL f2 f0 (by assumption)
  |exact T4 f2 f1 (by omega)
  |exact QO t2 t0 (by assumption) (by assumption)
  |exact⟨VT,VT⟩
  |done
end Go.V