/- Contracts. -/
import Derived.Test.YtniaaknbbceigaaGreatOfCq
set_option linter.all false
namespace Go.V
open Go Go.Proofs
set_option maxRecDepth 1000000
set_option maxHeartbeats 8000000
namespace Og0
structure av where
 peM:aa->Int->Int
 peF:aa->Int->Int
 machOk:aa->aa->aa->Bool
abbrev F0 :av:=⟨peM,peF,machOk⟩
def ct (F:av):CT:=fun f ds=>match f,ds with
 |176,[.agg [.s 2 es],.one (.v (.int .i64 p))]=>some (fun _=>Rw [tI,tI] es,[.agg [.i (F.peM es p),.i (F.peF es p)]])
 |177,[.agg [.s 1 cs,.s 1 us,.s 2 es]]=>some (fun _=>Rw [.sl [tI]] cs/\Rw [tB] us/\Rw [tI,tI] es,[.k (F.machOk cs us es)])
 |178,[.one (.s 1 es)]=>some (fun _=>Rw [tI] es/\es.length<=1099511627776,[.one (.s 1 es)])
 |_,_=>none
theorem ah :aO (ct F0):=by
 intro f ds pre res h hp;unfold ct at h;split at h<;>cases h
 exact cM hp;exact eW hp;exact qa hp
abbrev B :ce:=tb ah
end Og0
theorem pU {cs us es:aa}{p:Int}(hp:Rw [.sl [tI]] cs/\Rw [tB] us/\Rw [tI,tI] es/\peM es p≠0/\machOk cs us es=true):ap 78 [.agg [.s 1 cs,.s 1 us,.s 2 es],.j p] [.one (.s 1 (txL cs es p))]:=by
 obtain⟨hc,hu,he,hm,hk⟩:=hp;have c:=vX hk;have f:=v9 c.2.1 hm;have g:=vT c.1 f.1 f.2.1;have r:=Rw.sub (fs:=[.sl [tI]]) (j:=0) (i:=peF es p) hc (by omega) rfl;refine cb Og0.B Tryz.func78 ?_
 intro O r F hO hr hF;cbv
 repeat' first|apply And.intro|(apply be<;>intro hb<;>cbv)
 all_goals(subst hO hr hF;(try simp only[nc]at*);(try simp only[ai,SS,sa,az]at*))
 all_goals first
  | (show(_:List DV)=_
     first
      |exact rfl
      |exact absurd (by assumption) hm
      |(have q:true=false:=(by assumption);cases q)
      |exact absurd (hk.symm.trans (by assumption)) (by decide)
      |done)
  |exact he
  |exact⟨hc,hu,he⟩
  |(show aU _ _=true;kernel_rfl)
  |exact d9
  |exact⟨True.intro,True.intro⟩
  |exact⟨r,by omega⟩
  |done
theorem my {cs us es:aa}{p:Int}(hp:Rw [.sl [tI]] cs/\Rw [tB] us/\Rw [tI,tI] es/\peM es p=0):ap 78 [.agg [.s 1 cs,.s 1 us,.s 2 es],.j p] [.one (.v (.slice none 0 0))]:=by
 obtain⟨hc,hu,he,hm⟩:=hp;refine Ll Og0.B CX mixed 26 _ 4 Tryz.func78 rfl rfl rfl rfl ?_;intro O F hO hF;obtain⟨r,hr⟩:∃ r:List DV,r=[]:=⟨_,rfl⟩;cbv
 repeat' first|apply And.intro|(apply be<;>intro hb<;>cbv)
 all_goals(subst hO hr hF;(try simp only[nc]at*);(try simp only[ai,SS,sa,az]at*))
 all_goals first|exact he|(show aU _ _=true;kernel_rfl)|exact True.intro|exact absurd hm (by assumption)|done
namespace Og1
structure av where
 fpg:aa->Int->aa
 hasB:aa->Int->Bool
 sclL:Int->Int->Int->aa
 lhB:Int->Int->Int->Int->Bool
abbrev F0 :av:=⟨fpg,hasB,sclL,lhB⟩
def ct (F:av):CT:=fun f ds=>match f,ds with
 |179,[.agg [.s 1 a0,.s 1 a1,.s 2 a2,.v (.int .i64 a3),.s 1 a4,.s 2 a5,.s 3 a6,.s 3 a7,.s 4 a8,.s 1 a9,.s 1 aA,.s 1 aB,.v (.int .i64 aC),.s 3 aD,.v (.int .i64 aE),.v (.int .i64 aF),.v (.int .i64 aG),.v (.int .i64 aH),.v (.bool aI),.v (.int .i64 aJ),.v (.int .i64 aK),.s 1 aL,.v (.int .i64 aM),.v (.int .i64 aN)],.one (.v (.int .i64 pg))]=>some (fun _=>Rw [tI,tI] a2/\a2.length<=1099511627776,[.one (.s 1 (F.fpg a2 pg))])
 |180,[.one (.s 1 l),.one (.v (.int .i64 x))]=>some (fun _=>Rw [tI] l/\l.length<=1099511627776,[.k (F.hasB l x)])
 |181,[.agg [.v (.int .i64 p),.v (.int .i64 k),.v (.int .i64 b)]]=>some (fun _=>True,[.one (.s 1 (F.sclL p k b))])
 |182,[.agg [.v (.int .i64 p),.v (.int .i64 n),.v (.int .i64 s)],.one (.v (.int .i64 a))]=>some (fun _=>True,[.k (F.lhB p n s a)])
 |_,_=>none
theorem ah :aO (ct F0):=by
 intro f ds pre res h hp;unfold ct at h;split at h<;>cases h
 exact eH hp;exact d8 hp;exact iq hp;exact fL hp
abbrev B :ce:=tb ah
end Og1
theorem qb {a0 a1 a2:aa}{a3:Int}{a4 a5 a6 a7 a8 a9 aA aB:aa}{aC:Int}{aD:aa}{aE aF aG aH:Int}{aI:Bool}{aJ aK:Int}{aL:aa}{aM aN p:Int}(hp:eR a0 a1 a2 a4 a5 a6 a7 a8 a9 aA aB aD aL/\0<=p/\p<=1073741824):ap 79 [.agg (ez a0 a1 a2 a3 a4 a5 a6 a7 a8 a9 aA aB aC aD aE aF aG aH aI aJ aK aL aM aN),.j p] [.one (.s 1 (mbL a2 a6 a7 p))]:=by
 obtain⟨hp,p0,p1⟩:=hp;have N:=hp.n;have hsw:=N.sw;have hlw:=N.lw;have hsl:=N.sl;have hll:=N.ll;have hrl:(l9 16 [.v (.bool false)]).length=16:=rfl;have he:=hp.e;have hel:=hp.el;have hfp:=Aq (es:=a2) (p:=p) (by omega);have e1:bu .mul .i64 p 16=p*16:=AF (by omega);refine cb Og1.B Tryz.func79 ?_
 intro O r F hO hr hF;cbv
 repeat' first|apply And.intro|(apply be<;>intro hb<;>cbv)|(refine⟨[1,2,5,6,19,20,21],[2,5,6],Int×aa,fun s_=>match s_ with|(i,o)=>[.reg 21 (.j i),.leaf 5 0 ⟨0,0,none,.own (.s 1 o)⟩],fun s_=>match s_ with|(i,o)=>0<=i/\i<=(a6.length:Int)/\Jg a2 a6 p i o,fun s_=>match s_ with|(i,o)=>a6.length-i.toNat,⟨(0,O.rep 16 [.v (.bool false)]),?_,?_⟩,?_⟩;rotate_left;(focus (cbv;done));intro s_ hi;obtain⟨i,o⟩:=s_;replace hi:0<=i/\i<=(a6.length:Int)/\Jg a2 a6 p i o:=hi;obtain⟨i0,i1,i2⟩:=hi;cbv)|(refine⟨[1,2,5,6,19,20,21,30,31,32],[2,5,6,30],Int×aa,fun s_=>match s_ with|(j,q)=>[.reg 32 (.j j),.leaf 5 0 ⟨0,0,none,.own (.s 1 q)⟩],fun s_=>match s_ with|(j,q)=>0<=j/\j<=((sclL (af a6 i 0) (af a6 i 1) (af a6 i 2)).length:Int)/\NA a2 a6 p i j q,fun s_=>match s_ with|(j,q)=>(sclL (af a6 i 0) (af a6 i 1) (af a6 i 2)).length-j.toNat,⟨(0,o),?_,?_⟩,?_⟩;rotate_left;(focus (cbv;done));intro s_ hj;obtain⟨j,q⟩:=s_;replace hj:0<=j/\j<=((sclL (af a6 i 0) (af a6 i 1) (af a6 i 2)).length:Int)/\NA a2 a6 p i j q:=hj;obtain⟨j0,j1,j2⟩:=hj;cbv)|(refine⟨[1,5,42,43,44],[5],Int×aa,fun s_=>match s_ with|(k,r')=>[.reg 44 (.j k),.leaf 5 0 ⟨0,0,none,.own (.s 1 r')⟩],fun s_=>match s_ with|(k,r')=>0<=k/\k<=(a7.length:Int)/\NB a2 a6 a7 p k r',fun s_=>match s_ with|(k,r')=>a7.length-k.toNat,⟨(0,o),?_,?_⟩,?_⟩;rotate_left;(focus (cbv;done));intro s_ hk;obtain⟨k,r'⟩:=s_;replace hk:0<=k/\k<=(a7.length:Int)/\NB a2 a6 a7 p k r':=hk;obtain⟨k0,k1,k2⟩:=hk;cbv)|(refine⟨[1,5,12,42,43,44,49,50],[5,12],Int×aa,fun s_=>match s_ with|(c,s)=>[.reg 50 (.j c),.leaf 5 0 ⟨0,0,none,.own (.s 1 s)⟩],fun s_=>match s_ with|(c,s)=>0<=c/\c<=16/\Jf a2 a6 a7 p k c s,fun s_=>match s_ with|(c,s)=>16-c.toNat,⟨(0,r'),?_,?_⟩,?_⟩;rotate_left;(focus (cbv;done));intro s_ hc;obtain⟨c,s⟩:=s_;replace hc:0<=c/\c<=16/\Jf a2 a6 a7 p k c s:=hc;obtain⟨c0,c1,c2⟩:=hc;cbv)|(refine ab (O.ar .add .i64 j 1,O.up (.s 1 q) [(O.ad 0 (O.pi (.s 1 (F.sclL (O.gi a6 i 0) (O.gi a6 i 1) (O.gi a6 i 2))) [(O.ad 0 j,0)]),0)] [.v (.bool true)]) ?_ ?_ ?_;focus (cbv;done))|(refine ab (O.ar .add .i64 c 1,O.up (.s 1 s) [(O.ad 0 c,0)] [.v (.bool true)]) ?_ ?_ ?_;focus (cbv;done))|(refine ab (O.ar .add .i64 c 1,O.up (.s 1 s) [(O.ad 0 c,0)] [.v (.bool (O.sel false true (F.lhB (O.gi a7 k 0) (O.gi a7 k 1) (O.gi a7 k 2) (O.ar .add .i64 (O.ar .mul .i64 p 16) c))))]) ?_ ?_ ?_;focus (cbv;done))|(refine ab (O.ar .add .i64 i 1,q) ?_ ?_ ?_;focus (cbv;done))|(refine ab (O.ar .add .i64 i 1,o) ?_ ?_ ?_;focus (cbv;done))|(refine ab (O.ar .add .i64 k 1,s) ?_ ?_ ?_;focus (cbv;done))
 all_goals(subst hO hr hF;(try simp only[nc]at*);(try simp only[ai,SS,sa,az]at*);(try simp only[hrl,e1]at*);(try have sl:=um (p:=af a6 i 0) (k:=af a6 i 1) (b:=af a6 i 2));(try rw[bX (by omega) (by omega)]);(try simp only[fP j0]at*);(try simp only[F8 c0]at*);(try have u:=Mo j2 j0 (by omega));(try have z:=j2.m.l);(try have z:=c2.m.l);(try have z:=k2.m.l);(try have z:=i2.m.l))
 all_goals first
  | (show(_:List DV)=_
     first
      |exact xD (Ij k2 k1 (by omega))
      |done)
  |omega
  |exact⟨True.intro,True.intro⟩
  |exact d9
  |(show aU _ _=true;kernel_rfl)
  |exact⟨he,by omega⟩
  |exact⟨hfp.1,by omega⟩
  |exact lH IK j0 (by omega)
  |exact Kp c2.m.w c0 (by omega)
  |exact⟨u.1.1,by have:=u.1.2;omega⟩
  |exact GP j2.m.w u.1.1 (by have:=u.1.2;omega)
  |exact GP c2.m.w c0 (by omega)
  |(rw[A3 j2.m.w u.1.1 (by have:=u.1.2;omega)];exact u.2)
  |(rw[A3 c2.m.w c0 (by omega)];exact Pr c2 c0 (by omega) (by assumption))
  |(rw[A3 c2.m.w c0 (by omega)];exact Ps c2 c0 (by omega) (by assumption) (by rw[show bu .add .i64 (p*16) c=p*16+c from bj (by omega)]))
  |exact⟨True.intro,by omega⟩
  |exact Ie j2 i0 (by omega) (by assumption)
  |exact Pp i2
  |exact MB i2 i0 (by assumption)
  |exact Pu i2 i1 (by omega)
  |exact Pq k2
  |exact Ih c2 k0 (by omega)
  |exact PH rfl
  |done
namespace Og2
structure av where
 hpI:aa->aa->aa->Int->aa->aa->aa->aa->aa->aa->aa->aa->Int->aa->Int->Int->Int->Int->Bool->Int->Int->aa->Int->Int->Bool
abbrev F0 :av:=⟨hpI⟩
def ct (F:av):CT:=fun f ds=>match f,ds with
 |55,[.agg [.s 1 a0,.s 1 a1,.s 2 a2,.v (.int .i64 a3),.s 1 a4,.s 2 a5,.s 3 a6,.s 3 a7,.s 4 a8,.s 1 a9,.s 1 aA,.s 1 aB,.v (.int .i64 aC),.s 3 aD,.v (.int .i64 aE),.v (.int .i64 aF),.v (.int .i64 aG),.v (.int .i64 aH),.v (.bool aI),.v (.int .i64 aJ),.v (.int .i64 aK),.s 1 aL,.v (.int .i64 aM),.v (.int .i64 aN)]]=>some (fun _=>eR a0 a1 a2 a4 a5 a6 a7 a8 a9 aA aB aD aL,[.k (F.hpI a0 a1 a2 a3 a4 a5 a6 a7 a8 a9 aA aB aC aD aE aF aG aH aI aJ aK aL aM aN)])
 |78,[.agg [.s 1 cs,.s 1 us,.s 2 es],.one (.v (.int .i64 p))]=>some (fun _=>Rw [.sl [tI]] cs/\Rw [tB] us/\Rw [tI,tI] es/\peM es p=0,[.one (.v (.slice none 0 0))])
 |_,_=>none
theorem ah :aO (ct F0):=by
 intro f ds pre res h hp;unfold ct at h;split at h<;>cases h
 exact cK hp;exact my hp
abbrev B :ce:=tb ah
end Og2
namespace Og3
structure av where
 hpI:aa->aa->aa->Int->aa->aa->aa->aa->aa->aa->aa->aa->Int->aa->Int->Int->Int->Int->Bool->Int->Int->aa->Int->Int->Bool
 txL:aa->aa->Int->aa
 mbL:aa->aa->aa->Int->aa
abbrev F0 :av:=⟨hpI,txL,mbL⟩
def ct (F:av):CT:=fun f ds=>match f,ds with
 |55,[.agg [.s 1 a0,.s 1 a1,.s 2 a2,.v (.int .i64 a3),.s 1 a4,.s 2 a5,.s 3 a6,.s 3 a7,.s 4 a8,.s 1 a9,.s 1 aA,.s 1 aB,.v (.int .i64 aC),.s 3 aD,.v (.int .i64 aE),.v (.int .i64 aF),.v (.int .i64 aG),.v (.int .i64 aH),.v (.bool aI),.v (.int .i64 aJ),.v (.int .i64 aK),.s 1 aL,.v (.int .i64 aM),.v (.int .i64 aN)]]=>some (fun _=>eR a0 a1 a2 a4 a5 a6 a7 a8 a9 aA aB aD aL,[.k (F.hpI a0 a1 a2 a3 a4 a5 a6 a7 a8 a9 aA aB aC aD aE aF aG aH aI aJ aK aL aM aN)])
 |78,[.agg [.s 1 cs,.s 1 us,.s 2 es],.one (.v (.int .i64 p))]=>some (fun _=>Rw [.sl [tI]] cs/\Rw [tB] us/\Rw [tI,tI] es/\peM es p≠0/\machOk cs us es=true,[.one (.s 1 (F.txL cs es p))])
 |79,[.agg [.s 1 a0,.s 1 a1,.s 2 a2,.v (.int .i64 a3),.s 1 a4,.s 2 a5,.s 3 a6,.s 3 a7,.s 4 a8,.s 1 a9,.s 1 aA,.s 1 aB,.v (.int .i64 aC),.s 3 aD,.v (.int .i64 aE),.v (.int .i64 aF),.v (.int .i64 aG),.v (.int .i64 aH),.v (.bool aI),.v (.int .i64 aJ),.v (.int .i64 aK),.s 1 aL,.v (.int .i64 aM),.v (.int .i64 aN)],.one (.v (.int .i64 p))]=>some (fun _=>eR a0 a1 a2 a4 a5 a6 a7 a8 a9 aA aB aD aL/\0<=p/\p<=1073741824,[.one (.s 1 (F.mbL a2 a6 a7 p))])
 |_,_=>none
theorem ah :aO (ct F0):=by
 intro f ds pre res h hp;unfold ct at h;split at h<;>cases h
 exact cK hp;exact pU hp;exact qb hp
abbrev B :ce:=tb ah
end Og3
theorem nV {a0 a1 a2:aa}{a3:Int}{a4 a5 a6 a7 a8 a9 aA aB:aa}{aC:Int}{aD:aa}{aE aF aG aH:Int}{aI:Bool}{aJ aK:Int}{aL:aa}{aM aN p:Int}(hp:eR a0 a1 a2 a4 a5 a6 a7 a8 a9 aA aB aD aL):ap 20 [.agg (ez a0 a1 a2 a3 a4 a5 a6 a7 a8 a9 aA aB aC aD aE aF aG aH aI aJ aK aL aM aN),.j p] [.k (pcB (hpI a0 a1 a2 a3 a4 a5 a6 a7 a8 a9 aA aB aC aD aE aF aG aH aI aJ aK aL aM aN) a0 a2 a6 a7 p)]:=by
 by_cases hm:peM a2 p=0
 case pos=>
  refine cb Og2.B Tryz.func20 ?_
  intro O r F hO hr hF;cbv
  repeat' first|apply And.intro|(apply be<;>intro hb<;>cbv)
  all_goals(subst hO hr hF;(try simp only[nc]at*);(try simp only[ai,SS,sa,az]at*))
  all_goals first|exact ag (Kt hm).symm|exact hp|exact⟨hp.c,hp.u,hp.e,hm⟩|(show aU _ _=true;kernel_rfl)|done
 case neg=>
 have N:=hp.n;have pr:=Ku hm;have hel:=hp.el;have mk:hpI a0 a1 a2 a3 a4 a5 a6 a7 a8 a9 aA aB aC aD aE aF aG aH aI aJ aK aL aM aN=true->machOk a0 a1 a2=true:=fun hok=>by
  have k:=(pC hok).k;unfold kerOk at k;simp only[Bool.and_eq_true]at k
  first|exact k.1|exact k.1.1
 have tx:hpI a0 a1 a2 a3 a4 a5 a6 a7 a8 a9 aA aB aC aD aE aF aG aH aI aJ aK aL aM aN=true->Rw [tI] (txL a0 a2 p)/\(txL a0 a2 p).length=16:=fun hok=>by
  have c:=vX (mk hok);have f:=v9 c.2.1 hm;exact⟨Rw.sub (fs:=[.sl [tI]]) (j:=0) (i:=peF a2 p) hp.c (by omega) rfl,vT c.1 f.1 f.2.1⟩
 have mb:=Mm (es:=a2) (sp:=a6) (lg:=a7) (p:=p);refine cb Og3.B Tryz.func20 ?_
 intro O r F hO hr hF;cbv
 repeat' first|apply And.intro|(apply be<;>intro hb<;>cbv)|(refine⟨[6,22,23,24],[5,6],Int,fun i=>[.reg 24 (.j i)],fun i=>0<=i/\i<=(((txL a0 a2 p).length:Nat):Int)/\upto (y9 a0 a2 a6 a7 p) i,fun i=>((txL a0 a2 p).length)-i.toNat,⟨0,?_,?_⟩,?_⟩;rotate_left;(focus (cbv;done));intro i hi;replace hi:0<=i/\i<=(((txL a0 a2 p).length:Nat):Int)/\upto (y9 a0 a2 a6 a7 p) i:=hi;obtain⟨i0,i1,i2⟩:=hi;cbv)|(refine ab (O.ar .add .i64 i 1) ?_ ?_ ?_;focus (cbv;done))
 all_goals(subst hO hr hF;(try simp only[nc]at*);(try simp only[ai,SS,sa,az]at*);(try have hok:hpI a0 a1 a2 a3 a4 a5 a6 a7 a8 a9 aA aB aC aD aE aF aG aH aI aJ aK aL aM aN=true:=(by assumption));(try have t:=tx hok);(try rw[bX (by omega) (by omega)]);(try simp only[fP i0,F8 i0]at*))
 all_goals first
  | (show(_:List DV)=_
     first
      |exact ag (Ks (by assumption)).symm
      |exact ag (Co hok hm i2 (by omega)).symm
      |exact ag (AQ i0 (by omega) (P6 i0 (by omega) (by assumption) (by assumption))).symm
      |done)
  |omega
  |(show aU _ _=true;kernel_rfl)
  |exact hp
  |exact⟨True.intro,True.intro⟩
  |exact⟨hp,by omega,by omega⟩
  |exact⟨hp.c,hp.u,hp.e,hm,mk hok⟩
  |exact lH t.1 i0 (by omega)
  |exact Kp mb.1 i0 (by omega)
  |exact aX
  |exact aP i2 (Kr (by assumption))
  |exact aP i2 (P7 i0 (by omega) (by assumption))
  |done
namespace Og4
structure av where
 peM:aa->Int->Int
 peF:aa->Int->Int
 hpI:aa->aa->aa->Int->aa->aa->aa->aa->aa->aa->aa->aa->Int->aa->Int->Int->Int->Int->Bool->Int->Int->aa->Int->Int->Bool
 spI:aa->Int->Int
 ubB:aa->aa->Int->Int
 hsB:Int->Int->Bool
 clsSz:Int->Int
 dzK:aa->aa->Int->Int
 dzI:aa->aa->Int->Int
 dzS:aa->aa->Int->Int
 dzO:aa->aa->Int->Int
abbrev F0 :av:=⟨peM,peF,hpI,spI,ubB,hsB,clsSz,dzK,dzI,dzS,dzO⟩
def ct (F:av):CT:=fun f ds=>match f with
 | 72=>match ds with
   |[.agg [.s 2 es],.one (.v (.int .i64 p))]=>some (fun _=>Rw [tI,tI] es,[.agg [.i (F.peM es p),.i (F.peF es p)]])
   |_=>none
 | 44=>match ds with
   |[.agg [.s 1 a0,.s 1 a1,.s 2 a2,.v (.int .i64 a3),.s 1 a4,.s 2 a5,.s 3 a6,.s 3 a7,.s 4 a8,.s 1 a9,.s 1 aA,.s 1 aB,.v (.int .i64 aC),.s 3 aD,.v (.int .i64 aE),.v (.int .i64 aF),.v (.int .i64 aG),.v (.int .i64 aH),.v (.bool aI),.v (.int .i64 aJ),.v (.int .i64 aK),.s 1 aL,.v (.int .i64 aM),.v (.int .i64 aN)]]=>some (fun _=>eR a0 a1 a2 a4 a5 a6 a7 a8 a9 aA aB aD aL,[.k (F.hpI a0 a1 a2 a3 a4 a5 a6 a7 a8 a9 aA aB aC aD aE aF aG aH aI aJ aK aL aM aN)])
   |_=>none
 | 73=>match ds with
   |[.agg [.s 1 a0,.s 1 a1,.s 2 a2,.v (.int .i64 a3),.s 1 a4,.s 2 a5,.s 3 a6,.s 3 a7,.s 4 a8,.s 1 a9,.s 1 aA,.s 1 aB,.v (.int .i64 aC),.s 3 aD,.v (.int .i64 aE),.v (.int .i64 aF),.v (.int .i64 aG),.v (.int .i64 aH),.v (.bool aI),.v (.int .i64 aJ),.v (.int .i64 aK),.s 1 aL,.v (.int .i64 aM),.v (.int .i64 aN)],.one (.v (.int .i64 pg))]=>some (fun _=>Rw [tI,tI,tI] a6/\a6.length<=1099511627776,[.j (F.spI a6 pg)])
   |_=>none
 | 74=>match ds with
   |[.agg [.s 1 a0,.s 1 a1,.s 2 a2,.v (.int .i64 a3),.s 1 a4,.s 2 a5,.s 3 a6,.s 3 a7,.s 4 a8,.s 1 a9,.s 1 aA,.s 1 aB,.v (.int .i64 aC),.s 3 aD,.v (.int .i64 aE),.v (.int .i64 aF),.v (.int .i64 aG),.v (.int .i64 aH),.v (.bool aI),.v (.int .i64 aJ),.v (.int .i64 aK),.s 1 aL,.v (.int .i64 aM),.v (.int .i64 aN)],.one (.v (.int .i64 ix))]=>some (fun _=>Rw [tI,tI] a2/\Rw [tI,tI,tI] a6/\a2.length<=1099511627776/\a6.length<=1099511627776,[.j (F.ubB a2 a6 ix)])
   |_=>none
 | 75=>match ds with
   |[.one (.v (.int .i64 b)),.one (.v (.int .i64 i))]=>some (fun _=>True,[.k (F.hsB b i)])
   |_=>none
 | 76=>match ds with
   |[.one (.v (.int .i64 k))]=>some (fun _=>True,[.j (F.clsSz k)])
   |_=>none
 | 77=>match ds with
   |[.one (.s 3 sp),.one (.s 3 lg),.one (.v (.int .i64 a))]=>some (fun _=>Rw [tI,tI,tI] sp/\Rw [tI,tI,tI] lg/\sp.length<=1073741824/\lg.length<=1073741824/\ -9223372036854775808<=a/\a<=9223372036854775807,[.agg [.i (F.dzK sp lg a),.i (F.dzI sp lg a),.i (F.dzS sp lg a),.i (F.dzO sp lg a)]])
   |_=>none
 |_=>none
theorem ah :aO (ct F0):=by
 intro f ds pre res h hp;unfold ct at h;split at h<;>(try split at h)<;>cases h
 exact dR hp;exact dE hp;exact fq hp;exact qZ hp;exact gu hp;exact cp hp;exact eI hp
abbrev B :ce:=tb ah
end Og4
theorem oB {a0 a1 a2:aa}{a3:Int}{a4 a5 a6 a7 a8 a9 aA aB:aa}{aC:Int}{aD:aa}{aE aF aG aH:Int}{aI:Bool}{aJ aK:Int}{aL:aa}{aM aN p:Int}(hp:eR a0 a1 a2 a4 a5 a6 a7 a8 a9 aA aB aD aL):ap 19 [.agg (ez a0 a1 a2 a3 a4 a5 a6 a7 a8 a9 aA aB aC aD aE aF aG aH aI aJ aK aL aM aN),.j p] [.k (pcB (hpI a0 a1 a2 a3 a4 a5 a6 a7 a8 a9 aA aB aC aD aE aF aG aH aI aJ aK aL aM aN) a0 a2 a6 a7 p)]:=by
 have N:=hp.n;have hsw:=N.sw;have hlw:=N.lw;have hsl:=N.sl;have hll:=N.ll;have hel:=hp.el;have he:=hp.e;have hcc:=hp.c;have mk:hpI a0 a1 a2 a3 a4 a5 a6 a7 a8 a9 aA aB aC aD aE aF aG aH aI aJ aK aL aM aN=true->machOk a0 a1 a2=true:=fun hok=>by
  have k:=(pC hok).k;unfold kerOk at k;simp only[Bool.and_eq_true]at k
  first|exact k.1|exact k.1.1
 refine cb Og4.B Tryz.func19 ?_
 intro O r F hO hr hF;cbv
 repeat' first|apply And.intro|(apply be<;>intro hb<;>cbv)|(refine⟨[1,2,5,6,7,8,9],[2,5],Int,fun k=>[.reg 9 (.j k)],fun k=>0<=k/\k<=16/\upto (y9 a0 a2 a6 a7 p) k,fun k=>16-k.toNat,⟨0,?_,?_⟩,?_⟩;rotate_left;(focus (cbv;done));intro k hk;replace hk:0<=k/\k<=16/\upto (y9 a0 a2 a6 a7 p) k:=hk;obtain⟨k0,k1,k2⟩:=hk;cbv)|(refine ab (O.ar .add .i64 k 1) ?_ ?_ ?_;focus (cbv;done))
 all_goals(subst hO hr hF;(try simp only[nc]at*);(try simp only[ai,SS,sa,az]at*);(try rw[bX (by omega) (by omega)]);(try have hok:hpI a0 a1 a2 a3 a4 a5 a6 a7 a8 a9 aA aB aC aD aE aF aG aH aI aJ aK aL aM aN=true:=(by assumption));(try have hm:¬ peM a2 p=0:=(by assumption));(try have pr:=Ku hm);(try have T:=pC hok);(try have c:=vX (mk hok));(try have f:=v9 c.2.1 hm);(try have g:=vT c.1 f.1 f.2.1);(try have gw:=Rw.sub (fs:=[.sl [tI]]) (j:=0) (i:=peF a2 p) hcc (by omega) rfl);(try have sb:=GL (sp:=a6) (p:=p) (by omega));(try have cs:=Lk T.l (p:=p) (by omega));(try have e1:bu .mul .i64 p 16=p*16:=AF (by omega));(try have e2:bu .add .i64 (p*16) k=p*16+k:=bj (by omega));(try have e3:bu .quo .i64 k (clsSz (af a6 (spI a6 p) 1))=k/clsSz (af a6 (spI a6 p) 1):=jN (by omega) (by omega) (by omega));(try have e4:=N8 (a:=p*16+k) T.l);(try simp only[e1]at*);(try simp only[e2]at*);(try simp only[e3]at*);(try simp only[e4]at*))
 all_goals first
  |(exfalso;omega)
  |(have q:false=true:=(by assumption);cases q)
  | (show(_:List DV)=_
     first
      |exact ag (Ks (by assumption)).symm
      |exact ag (Kt (by assumption)).symm
      |exact ag (Co hok hm k2 (by omega)).symm
      |exact ag (AQ k0 (by omega) (F9 T.l T.p hm k0 (by omega) (by assumption) (SO (by omega) (by assumption)))).symm
      |exact ag (AQ k0 (by omega) (F9 T.l T.p hm k0 (by omega) (by assumption) (SP (by omega) (by assumption)))).symm
      |done)
  |omega
  |(show aU _ _=true;kernel_rfl)
  |exact d9
  |exact hp
  |exact he
  |exact⟨hsw,by omega⟩
  |exact⟨he,hsw,by omega,by omega⟩
  |exact⟨hsw,hlw,by omega,by omega,by omega,by omega⟩
  |exact aX
  |exact aP k2 (Kr (by assumption))
  |exact aP k2 (Ga T.l T.p hm k0 (by omega) (SV (by omega) (by assumption)))
  |exact aP k2 (Ga T.l T.p hm k0 (by omega) (SX (by omega) (by assumption)))
  |done
end Go.V