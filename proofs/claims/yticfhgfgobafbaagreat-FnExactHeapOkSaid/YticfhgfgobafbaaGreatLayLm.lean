/- Contracts. -/
import Derived.Test.YticfhgfgobafbaaGreatLayKm
set_option linter.all false
namespace Go.V
open Go Go.Proofs
set_option maxRecDepth 1000000
set_option maxHeartbeats 8000000
namespace Lm1
structure aO where
 ifL:aa->aa->aa
abbrev F0 :aO:=⟨ifL⟩
def ct (F:aO):CT:=fun f ds=>match f,ds with
 |98,[.agg [.s 1 b,.s 1 x]]=>some (fun _=>tc b x,[.one (.s 1 (F.ifL b x))])
 |_,_=>none
theorem aj :aR (ct F0):=by
 intro f ds pre res h hp;unfold ct at h;split at h<;>cases h
 exact ir hp
abbrev B :cD:=tb aj
end Lm1
theorem qH {a0 a1 a2:aa}{a3:Int}{a4 a5 a6 a7 a8 a9 aA aB:aa}{aC:Int}{aD:aa}{aE aF aG aH:Int}{aI:Bool}{aJ aK:Int}{aL:aa}{aM aN:Int}(hp:jX a6 a7 a8 a9 aA aB aD):ao 26 [.agg (kH a0 a1 a2 a3 a4 a5 a6 a7 a8 a9 aA aB aC aD aE aF aG aH aI aJ aK aL aM aN)] [.one (.s 1 (hdL a8 a9 aD aA aB))]:=by
 have N:=hp;have how:=hp.ow;have hcw:=hp.cw;have hqw:=hp.qw;have hol:=hp.ol;have hql:=hp.ql;have hcl:=hp.cl;have hcc:=hp.c;have hlc:=gW (es:=a9);refine cb Lm1.B Tryz.func26 ?_
 intro O r F hO hr hF;cbv
 repeat' first|apply And.intro|(apply bi<;>intro hb<;>cbv)|(refine⟨[1,3,4],[1,3],Int×aa,fun s_=>match s_ with|(i,o)=>[.reg 4 (.j i),.reg 3 (.one (.vw 3 0 0 0 (O.ln o))),.leaf 3 0 ⟨0,0,none,.own (.s 1 o)⟩],fun s_=>match s_ with|(i,o)=>0<=i/\i<=(a8.length:Int)/\Gu a8 i o,fun s_=>match s_ with|(i,o)=>a8.length-i.toNat,⟨(0,[]),?_,?_⟩,?_⟩;rotate_left;(focus (cbv;done));intro s_ hi;obtain⟨i,o⟩:=s_;replace hi:0<=i/\i<=(a8.length:Int)/\Gu a8 i o:=hi;obtain⟨i0,i1,i2⟩:=hi;cbv)|(refine⟨[1,3,5],[1,3],Int×aa,fun s_=>match s_ with|(j,o1)=>[.reg 5 (.j j),.reg 3 (.one (.vw 3 0 0 0 (O.ln o1))),.leaf 3 0 ⟨0,0,none,.own (.s 1 o1)⟩],fun s_=>match s_ with|(j,o1)=>0<=j/\j<=(a9.length:Int)/\Gv a8 a9 j o1,fun s_=>match s_ with|(j,o1)=>a9.length-j.toNat,⟨(0,o),?_,?_⟩,?_⟩;rotate_left;(focus (cbv;done));intro s_ hj;obtain⟨j,o1⟩:=s_;replace hj:0<=j/\j<=(a9.length:Int)/\Gv a8 a9 j o1:=hj;obtain⟨j0,j1,j2⟩:=hj;cbv)|(refine⟨[1,3,5,6],[1,3],Int×aa,fun s_=>match s_ with|(k,o2)=>[.reg 6 (.j k),.reg 3 (.one (.vw 3 0 0 0 (O.ln o2))),.leaf 3 0 ⟨0,0,none,.own (.s 1 o2)⟩],fun s_=>match s_ with|(k,o2)=>0<=k/\k<=((ax a9 j 0).length:Int)/\EZ a8 a9 j k o2,fun s_=>match s_ with|(k,o2)=>(ax a9 j 0).length-k.toNat,⟨(0,o1),?_,?_⟩,?_⟩;rotate_left;(focus (cbv;done));intro s_ hk;obtain⟨k,o2⟩:=s_;replace hk:0<=k/\k<=((ax a9 j 0).length:Int)/\EZ a8 a9 j k o2:=hk;obtain⟨k0,k1,k2⟩:=hk;cbv)|(refine⟨[1,3,7],[1,3],Int×aa,fun s_=>match s_ with|(q,o3)=>[.reg 7 (.j q),.reg 3 (.one (.vw 3 0 0 0 (O.ln o3))),.leaf 3 0 ⟨0,0,none,.own (.s 1 o3)⟩],fun s_=>match s_ with|(q,o3)=>0<=q/\q<=(aD.length:Int)/\Gw a8 a9 aD q o3,fun s_=>match s_ with|(q,o3)=>aD.length-q.toNat,⟨(0,o1),?_,?_⟩,?_⟩;rotate_left;(focus (cbv;done));intro s_ hq;obtain⟨q,o3⟩:=s_;replace hq:0<=q/\q<=(aD.length:Int)/\Gw a8 a9 aD q o3:=hq;obtain⟨q0,q1,q2⟩:=hq;cbv)|(refine ab (O.ar .add .i64 k 1,O.cat o2 (O.gs (O.gs a9 j 0) k 0)) ?_ ?_ ?_;focus (cbv;done))|(refine ab (O.ar .add .i64 j 1,o2) ?_ ?_ ?_;focus (cbv;done))|(refine ab (O.ar .add .i64 q 1,O.cat o3 (O.sub [[.i (O.gi aD q 0)]] 0 (O.ln [[.i (O.gi aD q 0)]]))) ?_ ?_ ?_;focus (cbv;done))|(refine ab (O.ar .add .i64 i 1,O.cat o (O.sub [[.i (O.gi a8 i 1)]] 0 (O.ln [[.i (O.gi a8 i 1)]]))) ?_ ?_ ?_;focus (cbv;done))
 all_goals(subst hO hr hF;(try simp only[nc]at*);(try simp only[ai,SS,sa,az]at*);(try rw[cB (by omega) (by omega)]);(try have w1:=MU (by assumption));(try have w2:=MW N j2 j1);(try have w3:=MY N k2 j0 (by assumption) k0 (by assumption));(try have w4:=Kz N q2 (by omega));(try have w5:=mC (b:=aA) (x:=aB));(try have w6:=hcc.n j j0 (by assumption));(try have z6:bP .add .i64 k 1=k+1:=bC (by have:=w6.l;omega));(try simp only[z6]at*))
 all_goals first
  | (show(_:List DV)=_
     first
      |(refine hP ?_;exact HY q2 q1 (by assumption))
      |done)
  |omega
  |exact eZ
  |(show bz _ _=true;kernel_rfl)
  |exact N.m
  |exact scal_one
  |exact Rw.scal (tE N.m) rfl
  |exact Rw.scal (Rw.sub (fs:=[.sl [tI]]) w6.w (by omega) rfl) rfl
  |(refine⟨by omega,by omega,Eq.trans (Rw.eta (fs:=[.sl [tI]]) w6.w (by omega) (by omega)) ?_⟩;rfl)
  |(constructor<;>(simp only[List.length_cons,List.length_nil];omega))
  |exact Ky k2 k0
  |exact Kx k2 j0 k1 (by omega)
  |exact MX j2
  |exact MV i2 i1 (by omega)
  |exact M0 j2 j1 (by omega)
  |exact KA q2 q0
  |exact Kw i2 i0
  |exact MS
  |exact Int.natCast_nonneg _
  |exact⟨True.intro,True.intro⟩
  |exact True.intro
  |done
namespace Lm2
structure aO where
 laL:aa->aa->aa
 hdL:aa->aa->aa->aa->aa->aa
 hasB:aa->Int->Bool
abbrev F0 :aO:=⟨laL,hdL,hasB⟩
def ct (F:aO):CT:=fun f ds=>match f,ds with
 |25,[.one (.s 3 sp),.one (.s 3 lg)]=>some (fun _=>Rw [tI,tI,tI] sp/\Rw [tI,tI,tI] lg/\sp.length<=1073741824/\lg.length<=1073741824,[.one (.s 1 (F.laL sp lg))])
 |26,[.agg [.s 1 a0,.s 1 a1,.s 2 a2,.v (.int .i64 a3),.s 1 a4,.s 2 a5,.s 3 a6,.s 3 a7,.s 4 a8,.s 1 a9,.s 1 aA,.s 1 aB,.v (.int .i64 aC),.s 3 aD,.v (.int .i64 aE),.v (.int .i64 aF),.v (.int .i64 aG),.v (.int .i64 aH),.v (.bool aI),.v (.int .i64 aJ),.v (.int .i64 aK),.s 1 aL,.v (.int .i64 aM),.v (.int .i64 aN)]]=>some (fun _=>jX a6 a7 a8 a9 aA aB aD,[.one (.s 1 (F.hdL a8 a9 aD aA aB))])
 |27,[.one (.s 1 l),.one (.v (.int .i64 x))]=>some (fun _=>Rw [tI] l,[.k (F.hasB l x)])
 |_,_=>none
theorem aj :aR (ct F0):=by
 intro f ds pre res h hp;unfold ct at h;split at h<;>cases h
 exact gz hp;exact qH hp;exact dO hp
abbrev B :cD:=tb aj
end Lm2
theorem ul {a0 a1 a2:aa}{a3:Int}{a4 a5 a6 a7 a8 a9 aA aB:aa}{aC:Int}{aD:aa}{aE aF aG aH:Int}{aI:Bool}{aJ aK:Int}{aL:aa}{aM aN:Int}(hp:jX a6 a7 a8 a9 aA aB aD):ao 6 [.agg (kH a0 a1 a2 a3 a4 a5 a6 a7 a8 a9 aA aB aC aD aE aF aG aH aI aJ aK aL aM aN)] [.one (.s 1 (lksL a6 a7 a8 a9 aA aB aD))]:=by
 have N:=hp;have hlr:=yW (sp:=a6) (lg:=a7);have hll:=mE (sp:=a6) (lg:=a7);have hhr:=Jo N;have hhl:=Bn N;refine cb Lm2.B Tryz.func6 ?_
 intro O r F hO hr hF;cbv
 repeat' first|apply And.intro|(apply bi<;>intro hb<;>cbv)|(refine⟨[3,4,5,6],[3,4,5],Int×aa,fun s_=>match s_ with|(i,o)=>[.reg 6 (.j i),.reg 3 (.one (.vw 3 0 0 0 (O.ln o))),.leaf 3 0 ⟨0,0,none,.own (.s 1 o)⟩],fun s_=>match s_ with|(i,o)=>0<=i/\i<=((laL a6 a7).length:Int)/\r9 (vL a8 a9 aD aA aB) (laL a6 a7) i o,fun s_=>match s_ with|(i,o)=>(laL a6 a7).length-i.toNat,⟨(0,[]),?_,?_⟩,?_⟩;rotate_left;(focus (cbv;done));intro s_ hi;obtain⟨i,o⟩:=s_;replace hi:0<=i/\i<=((laL a6 a7).length:Int)/\r9 (vL a8 a9 aD aA aB) (laL a6 a7) i o:=hi;obtain⟨i0,i1,i2⟩:=hi;cbv)|(refine ab (O.ar .add .i64 i 1,O.cat o (O.sub [[.i (O.pi (.s 1 (F.laL a6 a7)) [(O.ad 0 i,0)])]] 0 (O.ln [[.i (O.pi (.s 1 (F.laL a6 a7)) [(O.ad 0 i,0)])]]))) ?_ ?_ ?_;focus (cbv;done))|(refine ab (O.ar .add .i64 i 1,o) ?_ ?_ ?_;focus (cbv;done))
 all_goals(subst hO hr hF;(try simp only[nc]at*);(try simp only[ai,SS,sa,az]at*);(try rw[cB (by omega) (by omega)]);(try simp only[jq i0]at*);(try have w1:=i2.l))
 all_goals first
  | (show(_:List DV)=_
     first
      |(refine hP ?_;exact yJ i2 i1 (by assumption))
      |done)
  |omega
  |exact eZ
  |(show bz _ _=true;kernel_rfl)
  |exact N
  |exact hhr
  |exact⟨N.sw,N.lw,N.sl,N.ll⟩
  |exact scal_one
  |(constructor<;>(simp only[List.length_cons,List.length_nil];omega))
  |exact uy i2 i0 (Ei (by assumption))
  |exact mA i2 i0 (Ei (by assumption))
  |exact uy i2 i0 (by rw[Ei (by assumption)];rfl)
  |exact mA i2 i0 (by rw[Ei (by assumption)];rfl)
  |exact nE hlr i0 (by assumption)
  |exact Fw
  |exact Int.natCast_nonneg _
  |exact⟨True.intro,True.intro⟩
  |exact True.intro
  |done
namespace Lm3
structure aO where
 iaL:aa->aa->aa
 ifL:aa->aa->aa
 lkB:aa->Int->Bool
 obI:aa->Int->Int
 qtB:aa->Int->Bool
 hasB:aa->Int->Bool
abbrev F0 :aO:=⟨iaL,ifL,lkB,obI,qtB,hasB⟩
def ct (F:aO):CT:=fun f ds=>match f,ds with
 |38,[.one (.s 3 sp),.one (.s 3 lg)]=>some (fun _=>Rw [tI,tI,tI] sp/\Rw [tI,tI,tI] lg/\sp.length<=1073741824/\lg.length<=1073741824,[.one (.s 1 (F.iaL sp lg))])
 |37,[.agg [.s 1 b,.s 1 x]]=>some (fun _=>tc b x,[.one (.s 1 (F.ifL b x))])
 |39,[.one (.s 1 os),.fn 40 [[.v (.int .i64 id)]]]=>some (fun _=>IF os,[.k (F.lkB os id)])
 |42,[.agg [.s 1 a0,.s 1 a1,.s 2 a2,.v (.int .i64 a3),.s 1 a4,.s 2 a5,.s 3 a6,.s 3 a7,.s 4 a8,.s 1 a9,.s 1 aA,.s 1 aB,.v (.int .i64 aC),.s 3 aD,.v (.int .i64 aE),.v (.int .i64 aF),.v (.int .i64 aG),.v (.int .i64 aH),.v (.bool aI),.v (.int .i64 aJ),.v (.int .i64 aK),.s 1 aL,.v (.int .i64 aM),.v (.int .i64 aN)],.one (.v (.int .i64 ad))]=>some (fun _=>Rw [tI,tI,tI,tI] a8/\a8.length<=1099511627776,[.j (F.obI a8 ad)])
 |43,[.agg [.v (.int .i64 rm),.s 3 os],.one (.v (.int .i64 id))]=>some (fun _=>Rw [tI,tI,tI] os/\os.length<=1099511627776,[.k (F.qtB os id)])
 |44,[.one (.s 1 l),.one (.v (.int .i64 x))]=>some (fun _=>Rw [tI] l/\l.length<=1099511627776,[.k (F.hasB l x)])
 |_,_=>none
theorem aj :aR (ct F0):=by
 intro f ds pre res h hp;unfold ct at h;split at h<;>cases h
 exact gy hp;exact im hp;exact bE hp;exact ue hp;exact pP hp;exact dM hp
abbrev B :cD:=tb aj
end Lm3
theorem uc {a0 a1 a2:aa}{a3:Int}{a4 a5 a6 a7 a8 a9 aA aB:aa}{aC:Int}{aD:aa}{aE aF aG aH:Int}{aI:Bool}{aJ aK:Int}{aL:aa}{aM aN:Int}(hp:jX a6 a7 a8 a9 aA aB aD):ao 8 [.agg (kH a0 a1 a2 a3 a4 a5 a6 a7 a8 a9 aA aB aC aD aE aF aG aH aI aJ aK aL aM aN)] [.one (.s 1 (lksL a6 a7 a8 a9 aA aB aD))]:=by
 have N:=hp;have hlr:=yW (sp:=a6) (lg:=a7);have hll:=mE (sp:=a6) (lg:=a7);rw[<-uN]at hlr hll;have hfr:=tE N.m;have hfl:=mC (b:=aA) (x:=aB);refine cb Lm3.B Tryz.func8 ?_
 intro O r F hO hr hF;cbv
 repeat' first|apply And.intro|(apply bi<;>intro hb<;>cbv)|(refine⟨[1,3,4,16,17,18],[1,3,4,16],Int×aa,fun s_=>match s_ with|(i,o)=>[.reg 18 (.j i),.reg 3 (.one (.vw 3 0 0 0 (O.ln o))),.leaf 3 0 ⟨0,0,none,.own (.s 1 o)⟩],fun s_=>match s_ with|(i,o)=>0<=i/\i<=((iaL a6 a7).length:Int)/\r9 (vL a8 a9 aD aA aB) (iaL a6 a7) i o,fun s_=>match s_ with|(i,o)=>(iaL a6 a7).length-i.toNat,⟨(0,[]),?_,?_⟩,?_⟩;rotate_left;(focus (cbv;done));intro s_ hi;obtain⟨i,o⟩:=s_;replace hi:0<=i/\i<=((iaL a6 a7).length:Int)/\r9 (vL a8 a9 aD aA aB) (iaL a6 a7) i o:=hi;obtain⟨i0,i1,i2⟩:=hi;cbv)|(refine ab (O.ar .add .i64 i 1,O.cat o (O.sub [[.i (O.pi (.s 1 (F.iaL a6 a7)) [(O.ad 0 i,0)])]] 0 (O.ln [[.i (O.pi (.s 1 (F.iaL a6 a7)) [(O.ad 0 i,0)])]]))) ?_ ?_ ?_;focus (cbv;done))|(refine ab (O.ar .add .i64 i 1,o) ?_ ?_ ?_;focus (cbv;done))
 all_goals(subst hO hr hF;(try simp only[nc]at*);(try simp only[ai,SS,sa,az]at*);(try rw[cB (by omega) (by omega)]);(try simp only[jq i0]at*);(try have w1:=i2.l))
 all_goals first
  | (show(_:List DV)=_
     first
      |(refine hP ?_;unfold lksL;rw[<-uN];exact yJ i2 i1 (by assumption))
      |done)
  |omega
  |exact eZ
  |(show bz _ _=true;kernel_rfl)
  |exact N.m
  |exact N.c
  |exact⟨N.sw,N.lw,N.sl,N.ll⟩
  |exact⟨N.ow,by have:=N.ol;omega⟩
  |exact⟨N.qw,by have:=N.ql;omega⟩
  |exact⟨hfr,by omega⟩
  |exact scal_one
  |(constructor<;>(simp only[List.length_cons,List.length_nil];omega))
  |exact uy i2 i0 (MR (by assumption) (by assumption) (by assumption) (by assumption))
  |exact mA i2 i0 (Kr (by assumption))
  |exact mA i2 i0 (Kq (by assumption))
  |exact mA i2 i0 (Kp (by assumption))
  |exact mA i2 i0 (Ko (by omega))
  |exact nE hlr i0 (by assumption)
  |exact Fw
  |exact Int.natCast_nonneg _
  |exact⟨True.intro,True.intro⟩
  |exact True.intro
  |done
end Go.V