/- Contracts. -/
import Derived.Test.YtcodmgmliopheaaGreatLawHAt
import Derived.Test.YtcodmgmliopheaaGreatLawHEt
set_option linter.all false
open Go
open And renaming intro->AT
open Int renaming toNat_natCast->V4
open List renaming length_replicate->Ws
open List.cons renaming injEq->WI
open Nat renaming add_zero->VL,zero_le->No,zero_add->Wc
open Value.bool renaming injEq->WE
open Value.int renaming injEq->WL
namespace Go.V
open Go Go.Proofs
set_option maxRecDepth 1000000
set_option maxHeartbeats 8000000
namespace LCache
structure aQ where
 szN:List aa->Int->Int
abbrev F0 :aQ:=⟨bK⟩
def ct (F:aQ):CT:=fun f ds=>match f,ds with
 |126,[.one (.s 1 es),.one (.v (.int .i64 left))]=>some (fun _=>Rw [.sl [tI]] es/\0<=left/\left<=1048576,[.j (F.szN [es] left)])
 |156,[.one (.s 1 es)]=>some (fun _=>Rw [.sl [tI]] es/\ag es<=1048576,[.one (.s 1 es)])
 |186,[.one (.s 1 es),d]=>some (fun _=>d=.one (.s 1 es)/\Rw [.sl [tI]] es/\ag es<=1099511627776,[.k true])
 |_,_=>none
theorem aj :aR (ct F0):=by
 intro f ds pre res h hp;unfold ct at h;split at h<;>cases h
 exact gq hp;exact gu hp;exact gn hp
abbrev B :cy:=tb aj
end LCache
theorem tE {a0:aa}{left:Int}(hp:Rw [.sl [tI]] a0/\0<=left/\left<=1048576):aw 124 [.agg [.s 1 a0],.j left] [.j (bK [a0] left)]:=by
 obtain⟨w0,h0,h1⟩:=hp;refine cb LCache.B Tryz.func124 ?_
 exact Rq
theorem tK {a0:aa}(hp:Rw [.sl [tI]] a0/\ax [a0]<=1048576):aw 154 [.agg [.s 1 a0]] [.agg [.s 1 a0]]:=by
 obtain⟨w0,hlim⟩:=hp;simp only[ax,VL]at hlim;refine cb LCache.B Tryz.func154 ?_
 exact su
theorem tn {a0:aa}{d:DV}(hp:d=.agg [.s 1 a0]/\Rw [.sl [tI]] a0/\ax [a0]<=1099511627776):aw 184 [.agg [.s 1 a0],d] [.k true]:=by
 obtain⟨rfl,w0,hlim⟩:=hp;simp only[ax,VL]at hlim;refine cb LCache.B Tryz.func184 ?_
 exact su
namespace LCacheS
structure aQ where
 szN:List aa->Int->Int
abbrev F0 :aQ:=⟨bK⟩
def ct (F:aQ):CT:=fun f ds=>match f,ds with
 |124,[.agg [.s 1 a0],.one (.v (.int .i64 left))]=>some (fun _=>Rw [.sl [tI]] a0/\0<=left/\left<=1048576,[.j (F.szN [a0] left)])
 |154,[.agg [.s 1 a0]]=>some (fun _=>Rw [.sl [tI]] a0/\ax [a0]<=1048576,[.agg [.s 1 a0]])
 |184,[.agg [.s 1 a0],d]=>some (fun _=>d=.agg [.s 1 a0]/\Rw [.sl [tI]] a0/\ax [a0]<=1099511627776,[.k true])
 |_,_=>none
theorem aj :aR (ct F0):=by
 intro f ds pre res h hp;unfold ct at h;split at h<;>cases h
 exact tE hp;exact tK hp;exact tn hp
abbrev B :cy:=tb aj
end LCacheS
namespace MCacheS
structure aQ where
 kN:List aa->Int->Int
 mkN:aa->Int->aa
abbrev F0 :aQ:=⟨am,ao⟩
def ct (F:aQ):CT:=fun f ds=>match f,ds with
 |197,[.one (.s 1 ms),.one (.v (.int .i64 k))]=>some (fun _=>∃ es,ms=ao es k/\Rw [.sl [tI]] es/\ag es<=1099511627776/\0<=k/\am [ms] k<=1152921504606846976,[.j (F.kN [ms] k)])
 |_,_=>none
theorem aj :aR (ct F0):=by
 intro f ds pre res h hp;unfold ct at h;split at h<;>cases h
 exact fh hp
def mt (F:aQ):MT:=fun f=>match f with
 | 191=>some fun ds=>match ds with
   |[.one (.s 1 es),.one (.v (.int .i64 k))]=>some (fun _=>Rw [.sl [tI]] es/\ag es<=1099511627776/\0<=k/\am [es] k<=1152921504606846976,[.s 1 (F.mkN es k)],[.j (F.kN [es] k)])
   |_=>none
 |_=>none
theorem du :gR (mt F0):=by
 intro f mk h ds pre outs res hm hp;unfold mt at h;split at h
 ·cases h;dsimp only at hm;split at hm
  ·cases hm;exact fi hp
  ·cases hm
 ·cases h
abbrev B :cy:={Φ:=aQ,F0:=F0,ct:=ct,hc:=aj,mt:=mt,hm:=du}
end MCacheS
theorem ry {es:aa}{left:Int}(hp:Rw [.sl [.sl [tI]]] es/\0<=left/\left<=1048576):aw 37 [.one (.s 1 es),.j left] [.j (bK [es] left)]:=by
 obtain⟨hw,h0,h1⟩:=hp;have hwf:Wf [.s 1 []] es:=hw.wf;have hm:=hw.1;unfold maxLen at hm;have hs:bJ .sub .i64 left es.length=left-es.length:=cO (by omega);have hcE:ag es=es.length+bD es:=rfl;have hn:bK [es] left=if left<ag es then-1 else left-ag es:=by unfold bK;rw[cV]
 refine cb LCacheS.B Tryz.func37 ?_
 intro O r F hO hr hF;cbv
 apply bi<;>intro hb<;>cbv
 ·repeat' first|apply AT|(apply bi<;>intro hb<;>cbv)
  all_goals exact Nt
 have hb0:0<=left-es.length:=by
  (subst hO hr hF;(try simp only[nc]at*);(try simp only[ah,SS,sa,az]at*))
  rw[hs]at hb;exact hb
 clear hb;refine⟨[0,1,5],[],Int×Int,fun s=>match s with|(i,l)=>[.reg 5 (.j i),.reg 1 (.j l)],fun s=>0<=s.1/\s.1.toNat<=es.length/\0<=s.2/\s.2=left-es.length-bD (es.take s.1.toNat),fun s=>es.length-s.1.toNat,⟨(0,O.ar .sub .i64 left (O.zi (O.ln es))),?_,?_⟩,?_⟩
 ·(subst hO hr hF;(try simp only[nc]at*);(try simp only[ah,SS,sa,az]at*))
  rw[hs];exact⟨by omega,No _,hb0,by simp[bD]⟩
 ·cbv
 ·rintro⟨i,l⟩ hi;replace hi:0<=i/\i.toNat<=es.length/\0<=l/\l=left-es.length-bD (es.take i.toNat):=hi;obtain⟨g0,g1,g2,g3⟩:=hi;cbv
  repeat' first|apply AT|(apply bi<;>intro hb<;>cbv)|(refine ab (O.ar .add .i64 i 1,F.szN [O.gs es i 0] l) ?_ ?_ ?_;focus (cbv;done))
  all_goals(subst hO hr hF;(try simp only[nc]at*);(try simp only[ah,SS,sa,az]at*))
  all_goals have hle:=bF (es:=es) (n:=i.toNat)
  all_goals have hsz:=jI (a:=[aO es i 0]) (left:=l)
  all_goals((have hsz2:0<=bK [aO es i 0] l->bK [aO es i 0] l=l-ax [aO es i 0]:=oE);(try have hlt:i<es.length:=by assumption);(try have he:es.getD i.toNat []=[.s 1 (aO es i 0)]:=(au hwf g0 hlt).symm);(try rw[da (n:=es.length) g0 hlt (by omega)]);(try have hr0:Rw [.sl [tI]] (aO es i 0):=Rw.sub (fs:=[.sl [.sl [tI]]]) hw (by omega) rfl))
  all_goals exact Nr
theorem rG {es:aa}(hp:Rw [.sl [.sl [tI]]] es/\ag es<=1048576):aw 49 [.one (.s 1 es)] [.one (.s 1 es)]:=by
 obtain⟨hw,hlim⟩:=hp;have hwf:Wf [.s 1 []] es:=hw.wf;have hlen:=cQ hlim;refine cb LCacheS.B Tryz.func49 ?_
 intro O r F hO hr hF;cbv
 have h0z:bZ es [.s 1 []] 0=O.rep (O.zi (O.ln es)) [.s 1 []]:=by
  subst hO;rw[cH];rfl
 refine⟨?_,?_,[0,3,4],[3],Int×aa,fun s=>[.reg 4 (.j s.1),.leaf 3 0 ⟨0,0,none,.own (.s 1 s.2)⟩],fun s=>0<=s.1/\s.1.toNat<=es.length/\s.2=bZ es [.s 1 []] s.1.toNat,fun s=>es.length-s.1.toNat,⟨(0,O.rep (O.zi (O.ln es)) [.s 1 []]),?_,?_⟩,?_⟩
 ·subst hO;exact jX (b:=24) (show es.length*_<=_ by omega) (show es.length<=_ by omega)
 ·subst hO;exact⟨rfl,rfl⟩
 ·exact⟨by omega,No _,h0z.symm⟩
 ·cbv
 ·rintro⟨i,m⟩ hi;replace hi:0<=i/\i.toNat<=es.length/\m=bZ es [.s 1 []] i.toNat:=hi;obtain⟨g0,g1,hm⟩:=hi;cbv
  repeat' first|apply AT|(apply bi<;>intro hb<;>cbv)|(refine ab (O.ar .add .i64 i 1,O.up (.s 1 m) [(O.ad 0 i,0)] [.s 1 (O.gs es i 0)]) ?_ ?_ ?_;focus (cbv;done))
  all_goals(subst hO hr hF;(try simp only[nc]at*);(try simp only[ah,SS,sa,az]at*);(try simp only[jC,Ws,V4]at*);(try have hlt:i<es.length:=by assumption);(try have he:es.getD i.toNat []=[.s 1 (aO es i 0)]:=(au hwf g0 hlt).symm);(try rw[da (n:=es.length) g0 hlt (by omega)]);(try have hr0:Rw [.sl [tI]] (aO es i 0):=Rw.sub (fs:=[.sl [.sl [tI]]]) hw (by omega) rfl))
  all_goals exact Nq
theorem qW {es:aa}{d:DV}(hp:d=.one (.s 1 es)/\Rw [.sl [.sl [tI]]] es/\ag es<=1099511627776):aw 61 [.one (.s 1 es),d] [.k true]:=by
 obtain⟨rfl,hw,hlim⟩:=hp;have hwf:Wf [.s 1 []] es:=hw.wf;have hlen:=cQ hlim;refine cb LCacheS.B Tryz.func61 ?_
 intro O r F hO hr hF;cbv
 apply bi<;>intro hb<;>cbv
 ·(subst hO hr hF;(try simp only[nc]at*);(try simp only[ah,SS,sa,az]at*));exact absurd rfl hb
 ·clear hb;refine⟨[0,1,5],[],Int,fun i=>[.reg 5 (.j i)],fun i=>0<=i/\i.toNat<=es.length,fun i=>es.length-i.toNat,⟨0,?_,?_⟩,?_⟩
  ·exact⟨by omega,No _⟩
  ·cbv
  ·rintro i hi;replace hi:0<=i/\i.toNat<=es.length:=hi;obtain⟨g0,g1⟩:=hi;cbv
   repeat' first|apply AT|(apply bi<;>intro hb<;>cbv)|(refine ab (O.ar .add .i64 i 1) ?_ ?_ ?_;focus (cbv;done))
   all_goals(subst hO hr hF;(try simp only[nc]at*);(try simp only[ah,SS,sa,az]at*);(try have hlt:i<es.length:=by assumption);(try have he:es.getD i.toNat []=[.s 1 (aO es i 0)]:=(au hwf g0 hlt).symm);(try rw[da (n:=es.length) g0 hlt (by omega)]);(try have hr0:Rw [.sl [tI]] (aO es i 0):=Rw.sub (fs:=[.sl [.sl [tI]]]) hw (by omega) rfl))
   all_goals exact Ns
theorem nj {es:aa}{k:Int}(hp:Rw [.sl [.sl [tI]]] es/\ag es<=1099511627776/\0<=k/\am [es] k<=1152921504606846976):ed 70 [.one (.s 1 es),.j k] [.s 1 (ao es k)] [.j (am [es] k)]:=by
 obtain⟨hw,hlim,hk0,hkb⟩:=hp;have hwf:Wf [.s 1 []] es:=hw.wf;have hlen:=cQ hlim;refine mb MCacheS.B [(0,0)] Tryz.func70 ?_
 intro O r os F hO hr hos hF;cbv
 refine⟨[0,1,5],[0],Int×Int×aa,fun s=>match s with|(i,k',cur)=>[.reg 5 (.j i),.reg 1 (.j k'),.leaf 0 0 ⟨0,0,some 0,.own (.s 1 cur)⟩],fun s=>0<=s.1/\s.1.toNat<=es.length/\s.2.1=dF es k s.1.toNat/\s.2.2=dS es k s.1.toNat,fun s=>es.length-s.1.toNat,⟨(0,k,es),?_,?_⟩,?_⟩
 ·exact⟨by omega,No _,bG.symm,cX.symm⟩
 ·cbv
 ·rintro⟨i,k',cur⟩ hi;replace hi:0<=i/\i.toNat<=es.length/\k'=dF es k i.toNat/\cur=dS es k i.toNat:=hi;obtain⟨g0,g1,hk',hc⟩:=hi;cbv
  repeat' first|apply AT|(apply bi<;>intro hb<;>cbv)|(refine ab (O.ar .add .i64 i 1,F.kN [O.ps (.s 1 (cur)) [(O.ad 0 i,0)]] (k'),O.up (.s 1 (cur)) [(O.ad 0 i,0)] [.s 1 (F.mkN (O.ps (.s 1 (cur)) [(O.ad 0 i,0)]) (k'))]) ?_ ?_ ?_;focus (cbv;done))
  all_goals((try subst hos);subst hO hr hF;(try simp only[nc]at*);(try simp only[ah,SS,sa,az]at*);(try have hlt:i<es.length:=by assumption);(try have he:es.getD i.toNat []=[.s 1 (aO es i 0)]:=(au hwf g0 hlt).symm);(try have hcg:cur.getD i.toNat []=[.s 1 (aO es i 0)]:=by rw[hc,cW g1];exact he);(try rw[da (n:=es.length) g0 hlt (by omega)]);(try have hlt':i.toNat<es.length:=by omega);(try have hr0:Rw [.sl [tI]] (aO es i 0):=Rw.sub (fs:=[.sl [.sl [tI]]]) hw (by omega) rfl))
  all_goals exact Ul
theorem mV {ms:aa}{k:Int}(hp:∃ es,ms=ao es k/\Rw [.sl [.sl [tI]]] es/\ag es<=1099511627776/\0<=k/\am [ms] k<=1152921504606846976):aw 79 [.one (.s 1 ms),.j k] [.j (am [ms] k)]:=by
 obtain⟨es,hms,hw,hlim,hk0,hkb⟩:=hp;have hlen:=cQ hlim;have hml:ms.length=es.length:=by rw[hms];exact b8
 have hkk:am [ms] k=am [es] k:=by rw[hms];exact jV
 have hwm:Wf [.s 1 []] ms:=by rw[hms];exact cG hw
 have hwf:Wf [.s 1 []] es:=hw.wf;have hat:∀ n,n<es.length->ms.getD n []=(eo (es.getD n []) (dF es k n)).1:=fun n hn=>by rw[hms];exact fP hn
 refine cb MCacheS.B Tryz.func79 ?_
 intro O r F hO hr hF;cbv
 refine⟨[0,1,5],[],Int×Int,fun s=>match s with|(i,k')=>[.reg 5 (.j i),.reg 1 (.j k')],fun s=>0<=s.1/\s.1.toNat<=es.length/\s.2=dF es k s.1.toNat,fun s=>es.length-s.1.toNat,⟨(0,k),?_,?_⟩,?_⟩
 ·exact⟨by omega,No _,bG.symm⟩
 ·cbv
 ·rintro⟨i,k'⟩ hi;replace hi:0<=i/\i.toNat<=es.length/\k'=dF es k i.toNat:=hi;obtain⟨g0,g1,hk'⟩:=hi;cbv
  repeat' first|apply AT|(apply bi<;>intro hb<;>cbv)|(refine ab (O.ar .add .i64 i 1,F.kN [O.gs ms i 0] (k')) ?_ ?_ ?_;focus (cbv;done))
  all_goals(subst hO hr hF;(try simp only[nc]at*);(try simp only[ah,SS,sa,az]at*);(try have hltm:i<ms.length:=by assumption);(try have hlt:i<es.length:=by omega);(try have he:es.getD i.toNat []=[.s 1 (aO es i 0)]:=(au hwf g0 hlt).symm);(try rw[da (n:=es.length) g0 hlt (by omega)]);(try have hlt':i.toNat<es.length:=by omega);(try have hr0:Rw [.sl [tI]] (aO es i 0):=Rw.sub (fs:=[.sl [.sl [tI]]]) hw (by omega) rfl);(try have hct:=cq (es:=es) (n:=i.toNat) (by omega);rw[he]at hct;simp only[cL,eC,VL,Wc]at hct);(try have hks:=cI (es:=es) (k:=k) hlt';rw[he]at hks;simp only[eo,eM]at hks);(try have hem:([.s 1 (aO ms i 0)]:ay)=_:=(au hwm g0 hltm).trans (hat i.toNat hlt');rw[he]at hem;simp only[eo,eM,WI,L.v.injEq,WL,WE,L.s.injEq,true_and,and_true]at hem))
  all_goals exact Um
namespace LPostSS
structure aQ where
 szN:List aa->Int->Int
abbrev F0 :aQ:=⟨bK⟩
def ct (F:aQ):CT:=fun f ds=>match f,ds with
 |261,[.one (.s 2 es),.one (.v (.int .i64 left))]=>some (fun _=>Rw [tI,tI] es/\0<=left/\left<=1048576,[.j (F.szN [es] left)])
 |281,[.one (.s 2 es)]=>some (fun _=>Rw [tI,tI] es/\ag es<=1048576,[.one (.s 2 es)])
 |300,[.one (.s 2 es),d]=>some (fun _=>d=.one (.s 2 es)/\Rw [tI,tI] es/\ag es<=1099511627776,[.k true])
 |_,_=>none
theorem aj :aR (ct F0):=by
 intro f ds pre res h hp;unfold ct at h;split at h<;>cases h
 exact tF hp;exact tN hp;exact tt hp
abbrev B :cy:=tb aj
end LPostSS
namespace MPostSS
structure aQ where
 kN:List aa->Int->Int
 mkN:aa->Int->aa
abbrev F0 :aQ:=⟨am,ao⟩
def ct (F:aQ):CT:=fun f ds=>match f,ds with
 |307,[.one (.s 2 ms),.one (.v (.int .i64 k))]=>some (fun _=>∃ es,ms=ao es k/\Rw [tI,tI] es/\ag es<=1099511627776/\0<=k/\am [ms] k<=1152921504606846976,[.j (F.kN [ms] k)])
 |_,_=>none
theorem aj :aR (ct F0):=by
 intro f ds pre res h hp;unfold ct at h;split at h<;>cases h
 exact o9 hp
def mt (F:aQ):MT:=fun f=>match f with
 | 304=>some fun ds=>match ds with
   |[.one (.s 2 es),.one (.v (.int .i64 k))]=>some (fun _=>Rw [tI,tI] es/\ag es<=1099511627776/\0<=k/\am [es] k<=1152921504606846976,[.s 2 (F.mkN es k)],[.j (F.kN [es] k)])
   |_=>none
 |_=>none
theorem du :gR (mt F0):=by
 intro f mk h ds pre outs res hm hp;unfold mt at h;split at h
 ·cases h;dsimp only at hm;split at hm
  ·cases hm;exact pe hp
  ·cases hm
 ·cases h
abbrev B :cy:={Φ:=aQ,F0:=F0,ct:=ct,hc:=aj,mt:=mt,hm:=du}
end MPostSS
theorem rD {es:aa}{left:Int}(hp:Rw [.sl [tI,tI]] es/\0<=left/\left<=1048576):aw 125 [.one (.s 1 es),.j left] [.j (bK [es] left)]:=by
 obtain⟨hw,h0,h1⟩:=hp;have hwf:Wf [.s 2 []] es:=hw.wf;have hm:=hw.1;unfold maxLen at hm;have hs:bJ .sub .i64 left es.length=left-es.length:=cO (by omega);have hcE:ag es=es.length+bD es:=rfl;have hn:bK [es] left=if left<ag es then-1 else left-ag es:=by unfold bK;rw[cV]
 refine cb LPostSS.B Tryz.func125 ?_
 intro O r F hO hr hF;cbv
 apply bi<;>intro hb<;>cbv
 ·repeat' first|apply AT|(apply bi<;>intro hb<;>cbv)
  all_goals exact Nt
 have hb0:0<=left-es.length:=by
  (subst hO hr hF;(try simp only[nc]at*);(try simp only[ah,SS,sa,az]at*))
  rw[hs]at hb;exact hb
 clear hb;refine⟨[0,1,5],[],Int×Int,fun s=>match s with|(i,l)=>[.reg 5 (.j i),.reg 1 (.j l)],fun s=>0<=s.1/\s.1.toNat<=es.length/\0<=s.2/\s.2=left-es.length-bD (es.take s.1.toNat),fun s=>es.length-s.1.toNat,⟨(0,O.ar .sub .i64 left (O.zi (O.ln es))),?_,?_⟩,?_⟩
 ·(subst hO hr hF;(try simp only[nc]at*);(try simp only[ah,SS,sa,az]at*))
  rw[hs];exact⟨by omega,No _,hb0,by simp[bD]⟩
 ·cbv
 ·rintro⟨i,l⟩ hi;replace hi:0<=i/\i.toNat<=es.length/\0<=l/\l=left-es.length-bD (es.take i.toNat):=hi;obtain⟨g0,g1,g2,g3⟩:=hi;cbv
  repeat' first|apply AT|(apply bi<;>intro hb<;>cbv)|(refine ab (O.ar .add .i64 i 1,F.szN [O.gs es i 0] l) ?_ ?_ ?_;focus (cbv;done))
  all_goals(subst hO hr hF;(try simp only[nc]at*);(try simp only[ah,SS,sa,az]at*))
  all_goals have hle:=bF (es:=es) (n:=i.toNat)
  all_goals have hsz:=jI (a:=[aO es i 0]) (left:=l)
  all_goals((have hsz2:0<=bK [aO es i 0] l->bK [aO es i 0] l=l-ax [aO es i 0]:=oE);(try have hlt:i<es.length:=by assumption);(try have he:es.getD i.toNat []=[.s 2 (aO es i 0)]:=(au hwf g0 hlt).symm);(try rw[da (n:=es.length) g0 hlt (by omega)]);(try have hr0:Rw [tI,tI] (aO es i 0):=Rw.sub (fs:=[.sl [tI,tI]]) hw (by omega) rfl))
  all_goals exact Nr
theorem rL {es:aa}(hp:Rw [.sl [tI,tI]] es/\ag es<=1048576):aw 155 [.one (.s 1 es)] [.one (.s 1 es)]:=by
 obtain⟨hw,hlim⟩:=hp;have hwf:Wf [.s 2 []] es:=hw.wf;have hlen:=cQ hlim;refine cb LPostSS.B Tryz.func155 ?_
 intro O r F hO hr hF;cbv
 have h0z:bZ es [.s 2 []] 0=O.rep (O.zi (O.ln es)) [.s 2 []]:=by
  subst hO;rw[cH];rfl
 refine⟨?_,?_,[0,3,4],[3],Int×aa,fun s=>[.reg 4 (.j s.1),.leaf 3 0 ⟨0,0,none,.own (.s 1 s.2)⟩],fun s=>0<=s.1/\s.1.toNat<=es.length/\s.2=bZ es [.s 2 []] s.1.toNat,fun s=>es.length-s.1.toNat,⟨(0,O.rep (O.zi (O.ln es)) [.s 2 []]),?_,?_⟩,?_⟩
 ·subst hO;exact jX (b:=24) (show es.length*_<=_ by omega) (show es.length<=_ by omega)
 ·subst hO;exact⟨rfl,rfl⟩
 ·exact⟨by omega,No _,h0z.symm⟩
 ·cbv
 ·rintro⟨i,m⟩ hi;replace hi:0<=i/\i.toNat<=es.length/\m=bZ es [.s 2 []] i.toNat:=hi;obtain⟨g0,g1,hm⟩:=hi;cbv
  repeat' first|apply AT|(apply bi<;>intro hb<;>cbv)|(refine ab (O.ar .add .i64 i 1,O.up (.s 1 m) [(O.ad 0 i,0)] [.s 2 (O.gs es i 0)]) ?_ ?_ ?_;focus (cbv;done))
  all_goals(subst hO hr hF;(try simp only[nc]at*);(try simp only[ah,SS,sa,az]at*);(try simp only[jC,Ws,V4]at*);(try have hlt:i<es.length:=by assumption);(try have he:es.getD i.toNat []=[.s 2 (aO es i 0)]:=(au hwf g0 hlt).symm);(try rw[da (n:=es.length) g0 hlt (by omega)]);(try have hr0:Rw [tI,tI] (aO es i 0):=Rw.sub (fs:=[.sl [tI,tI]]) hw (by omega) rfl))
  all_goals exact Nq
theorem q8 {es:aa}{d:DV}(hp:d=.one (.s 1 es)/\Rw [.sl [tI,tI]] es/\ag es<=1099511627776):aw 185 [.one (.s 1 es),d] [.k true]:=by
 obtain⟨rfl,hw,hlim⟩:=hp;have hwf:Wf [.s 2 []] es:=hw.wf;have hlen:=cQ hlim;refine cb LPostSS.B Tryz.func185 ?_
 intro O r F hO hr hF;cbv
 apply bi<;>intro hb<;>cbv
 ·(subst hO hr hF;(try simp only[nc]at*);(try simp only[ah,SS,sa,az]at*));exact absurd rfl hb
 ·clear hb;refine⟨[0,1,5],[],Int,fun i=>[.reg 5 (.j i)],fun i=>0<=i/\i.toNat<=es.length,fun i=>es.length-i.toNat,⟨0,?_,?_⟩,?_⟩
  ·exact⟨by omega,No _⟩
  ·cbv
  ·rintro i hi;replace hi:0<=i/\i.toNat<=es.length:=hi;obtain⟨g0,g1⟩:=hi;cbv
   repeat' first|apply AT|(apply bi<;>intro hb<;>cbv)|(refine ab (O.ar .add .i64 i 1) ?_ ?_ ?_;focus (cbv;done))
   all_goals(subst hO hr hF;(try simp only[nc]at*);(try simp only[ah,SS,sa,az]at*);(try have hlt:i<es.length:=by assumption);(try have he:es.getD i.toNat []=[.s 2 (aO es i 0)]:=(au hwf g0 hlt).symm);(try rw[da (n:=es.length) g0 hlt (by omega)]);(try have hr0:Rw [tI,tI] (aO es i 0):=Rw.sub (fs:=[.sl [tI,tI]]) hw (by omega) rfl))
   all_goals exact Ns
theorem nu {es:aa}{k:Int}(hp:Rw [.sl [tI,tI]] es/\ag es<=1099511627776/\0<=k/\am [es] k<=1152921504606846976):ed 192 [.one (.s 1 es),.j k] [.s 1 (ao es k)] [.j (am [es] k)]:=by
 obtain⟨hw,hlim,hk0,hkb⟩:=hp;have hwf:Wf [.s 2 []] es:=hw.wf;have hlen:=cQ hlim;refine mb MPostSS.B [(0,0)] Tryz.func192 ?_
 intro O r os F hO hr hos hF;cbv
 refine⟨[0,1,5],[0],Int×Int×aa,fun s=>match s with|(i,k',cur)=>[.reg 5 (.j i),.reg 1 (.j k'),.leaf 0 0 ⟨0,0,some 0,.own (.s 1 cur)⟩],fun s=>0<=s.1/\s.1.toNat<=es.length/\s.2.1=dF es k s.1.toNat/\s.2.2=dS es k s.1.toNat,fun s=>es.length-s.1.toNat,⟨(0,k,es),?_,?_⟩,?_⟩
 ·exact⟨by omega,No _,bG.symm,cX.symm⟩
 ·cbv
 ·rintro⟨i,k',cur⟩ hi;replace hi:0<=i/\i.toNat<=es.length/\k'=dF es k i.toNat/\cur=dS es k i.toNat:=hi;obtain⟨g0,g1,hk',hc⟩:=hi;cbv
  repeat' first|apply AT|(apply bi<;>intro hb<;>cbv)|(refine ab (O.ar .add .i64 i 1,F.kN [O.ps (.s 1 (cur)) [(O.ad 0 i,0)]] (k'),O.up (.s 1 (cur)) [(O.ad 0 i,0)] [.s 2 (F.mkN (O.ps (.s 1 (cur)) [(O.ad 0 i,0)]) (k'))]) ?_ ?_ ?_;focus (cbv;done))
  all_goals((try subst hos);subst hO hr hF;(try simp only[nc]at*);(try simp only[ah,SS,sa,az]at*);(try have hlt:i<es.length:=by assumption);(try have he:es.getD i.toNat []=[.s 2 (aO es i 0)]:=(au hwf g0 hlt).symm);(try have hcg:cur.getD i.toNat []=[.s 2 (aO es i 0)]:=by rw[hc,cW g1];exact he);(try rw[da (n:=es.length) g0 hlt (by omega)]);(try have hlt':i.toNat<es.length:=by omega);(try have hr0:Rw [tI,tI] (aO es i 0):=Rw.sub (fs:=[.sl [tI,tI]]) hw (by omega) rfl))
  all_goals exact Ul
theorem na {ms:aa}{k:Int}(hp:∃ es,ms=ao es k/\Rw [.sl [tI,tI]] es/\ag es<=1099511627776/\0<=k/\am [ms] k<=1152921504606846976):aw 198 [.one (.s 1 ms),.j k] [.j (am [ms] k)]:=by
 obtain⟨es,hms,hw,hlim,hk0,hkb⟩:=hp;have hlen:=cQ hlim;have hml:ms.length=es.length:=by rw[hms];exact b8
 have hkk:am [ms] k=am [es] k:=by rw[hms];exact jV
 have hwm:Wf [.s 2 []] ms:=by rw[hms];exact cG hw
 have hwf:Wf [.s 2 []] es:=hw.wf;have hat:∀ n,n<es.length->ms.getD n []=(eo (es.getD n []) (dF es k n)).1:=fun n hn=>by rw[hms];exact fP hn
 refine cb MPostSS.B Tryz.func198 ?_
 intro O r F hO hr hF;cbv
 refine⟨[0,1,5],[],Int×Int,fun s=>match s with|(i,k')=>[.reg 5 (.j i),.reg 1 (.j k')],fun s=>0<=s.1/\s.1.toNat<=es.length/\s.2=dF es k s.1.toNat,fun s=>es.length-s.1.toNat,⟨(0,k),?_,?_⟩,?_⟩
 ·exact⟨by omega,No _,bG.symm⟩
 ·cbv
 ·rintro⟨i,k'⟩ hi;replace hi:0<=i/\i.toNat<=es.length/\k'=dF es k i.toNat:=hi;obtain⟨g0,g1,hk'⟩:=hi;cbv
  repeat' first|apply AT|(apply bi<;>intro hb<;>cbv)|(refine ab (O.ar .add .i64 i 1,F.kN [O.gs ms i 0] (k')) ?_ ?_ ?_;focus (cbv;done))
  all_goals(subst hO hr hF;(try simp only[nc]at*);(try simp only[ah,SS,sa,az]at*);(try have hltm:i<ms.length:=by assumption);(try have hlt:i<es.length:=by omega);(try have he:es.getD i.toNat []=[.s 2 (aO es i 0)]:=(au hwf g0 hlt).symm);(try rw[da (n:=es.length) g0 hlt (by omega)]);(try have hlt':i.toNat<es.length:=by omega);(try have hr0:Rw [tI,tI] (aO es i 0):=Rw.sub (fs:=[.sl [tI,tI]]) hw (by omega) rfl);(try have hct:=cq (es:=es) (n:=i.toNat) (by omega);rw[he]at hct;simp only[cL,eC,VL,Wc]at hct);(try have hks:=cI (es:=es) (k:=k) hlt';rw[he]at hks;simp only[eo,eM]at hks);(try have hem:([.s 2 (aO ms i 0)]:ay)=_:=(au hwm g0 hltm).trans (hat i.toNat hlt');rw[he]at hem;simp only[eo,eM,WI,L.v.injEq,WL,WE,L.s.injEq,true_and,and_true]at hem))
  all_goals exact Um
namespace LMail
structure aQ where
 szN:List aa->Int->Int
abbrev F0 :aQ:=⟨bK⟩
def ct (F:aQ):CT:=fun f ds=>match f,ds with
 |125,[.one (.s 1 es),.one (.v (.int .i64 left))]=>some (fun _=>Rw [.sl [tI,tI]] es/\0<=left/\left<=1048576,[.j (F.szN [es] left)])
 |155,[.one (.s 1 es)]=>some (fun _=>Rw [.sl [tI,tI]] es/\ag es<=1048576,[.one (.s 1 es)])
 |185,[.one (.s 1 es),d]=>some (fun _=>d=.one (.s 1 es)/\Rw [.sl [tI,tI]] es/\ag es<=1099511627776,[.k true])
 |126,[.one (.s 1 es),.one (.v (.int .i64 left))]=>some (fun _=>Rw [.sl [tI]] es/\0<=left/\left<=1048576,[.j (F.szN [es] left)])
 |156,[.one (.s 1 es)]=>some (fun _=>Rw [.sl [tI]] es/\ag es<=1048576,[.one (.s 1 es)])
 |186,[.one (.s 1 es),d]=>some (fun _=>d=.one (.s 1 es)/\Rw [.sl [tI]] es/\ag es<=1099511627776,[.k true])
 |_,_=>none
theorem aj :aR (ct F0):=by
 intro f ds pre res h hp;unfold ct at h;split at h<;>cases h
 exact rD hp;exact rL hp;exact q8 hp;exact gq hp;exact gu hp;exact gn hp
abbrev B :cy:=tb aj
end LMail
namespace MMail
structure aQ where
 kN:List aa->Int->Int
 mkN:aa->Int->aa
abbrev F0 :aQ:=⟨am,ao⟩
def ct (F:aQ):CT:=fun f ds=>match f,ds with
 |198,[.one (.s 1 ms),.one (.v (.int .i64 k))]=>some (fun _=>∃ es,ms=ao es k/\Rw [.sl [tI,tI]] es/\ag es<=1099511627776/\0<=k/\am [ms] k<=1152921504606846976,[.j (F.kN [ms] k)])
 |197,[.one (.s 1 ms),.one (.v (.int .i64 k))]=>some (fun _=>∃ es,ms=ao es k/\Rw [.sl [tI]] es/\ag es<=1099511627776/\0<=k/\am [ms] k<=1152921504606846976,[.j (F.kN [ms] k)])
 |_,_=>none
theorem aj :aR (ct F0):=by
 intro f ds pre res h hp;unfold ct at h;split at h<;>cases h
 exact na hp;exact fh hp
def mt (F:aQ):MT:=fun f=>match f with
 | 192=>some fun ds=>match ds with
   |[.one (.s 1 es),.one (.v (.int .i64 k))]=>some (fun _=>Rw [.sl [tI,tI]] es/\ag es<=1099511627776/\0<=k/\am [es] k<=1152921504606846976,[.s 1 (F.mkN es k)],[.j (F.kN [es] k)])
   |_=>none
 | 191=>some fun ds=>match ds with
   |[.one (.s 1 es),.one (.v (.int .i64 k))]=>some (fun _=>Rw [.sl [tI]] es/\ag es<=1099511627776/\0<=k/\am [es] k<=1152921504606846976,[.s 1 (F.mkN es k)],[.j (F.kN [es] k)])
   |_=>none
 |_=>none
theorem du :gR (mt F0):=by
 intro f mk h ds pre outs res hm hp;unfold mt at h;split at h
 ·cases h;dsimp only at hm;split at hm
  ·cases hm;exact nu hp
  ·cases hm
 ·cases h;dsimp only at hm;split at hm
  ·cases hm;exact fi hp
  ·cases hm
 ·cases h
abbrev B :cy:={Φ:=aQ,F0:=F0,ct:=ct,hc:=aj,mt:=mt,hm:=du}
end MMail
theorem wF {a0 a1:aa}{left:Int}(hp:Rw [.sl [tI,tI]] a0/\Rw [.sl [tI]] a1/\0<=left/\left<=1048576):aw 38 [.agg [.s 1 a0,.s 1 a1],.j left] [.j (bK [a0,a1] left)]:=by
 obtain⟨w0,w1,h0,h1⟩:=hp;refine cb LMail.B Tryz.func38 ?_
 intro O r F hO hr hF;cbv
 repeat' first|apply AT|(apply bi<;>intro hb<;>cbv)
 all_goals(subst hO hr hF;(try simp only[nc]at*);(try simp only[ah,SS,sa,az]at*))
 all_goals iterate 1 (try simp(disch:=assumption) only[hH,List.cons_append,List.nil_append]at*)
 all_goals exact RA
theorem wK {a0 a1:aa}(hp:Rw [.sl [tI,tI]] a0/\Rw [.sl [tI]] a1/\ax [a0,a1]<=1048576):aw 50 [.agg [.s 1 a0,.s 1 a1]] [.agg [.s 1 a0,.s 1 a1]]:=by
 obtain⟨w0,w1,hlim⟩:=hp;simp only[ax,VL]at hlim;refine cb LMail.B Tryz.func50 ?_
 exact Ry
theorem wy {a0 a1:aa}{d:DV}(hp:d=.agg [.s 1 a0,.s 1 a1]/\Rw [.sl [tI,tI]] a0/\Rw [.sl [tI]] a1/\ax [a0,a1]<=1099511627776):aw 62 [.agg [.s 1 a0,.s 1 a1],d] [.k true]:=by
 obtain⟨rfl,w0,w1,hlim⟩:=hp;simp only[ax,VL]at hlim;refine cb LMail.B Tryz.func62 ?_
 exact Rx
theorem rq {a0 a1:aa}{k:Int}(hp:Rw [.sl [tI,tI]] a0/\Rw [.sl [tI]] a1/\ax [a0,a1]<=1099511627776/\0<=k/\am [a0,a1] k<=1152921504606846976):ed 71 [.agg [.s 1 a0,.s 1 a1],.j k] [.s 1 (ao a0 k),.s 1 (ao a1 (am [a0] k))] [.j (am [a0,a1] k)]:=by
 obtain⟨w0,w1,hlim,hk0,hkb⟩:=hp;simp only[ax,VL]at hlim;have p0:am [a0] k<=am [a0,a1] k/\0<=am [a0] k:=bj (b:=[a1]) hk0;have p1:am [a0,a1] k<=am [a0,a1] k/\0<=am [a0,a1] k:=bj (b:=[]) hk0;refine mb MMail.B [(2,0),(2,1)] Tryz.func71 ?_
 exact Jg
theorem rh {m0 m1:aa}{k:Int}(hp:(∃ a0,m0=ao a0 k/\Rw [.sl [tI,tI]] a0/\ag a0<=1099511627776)/\(∃ a1,m1=ao a1 (am [m0] k)/\Rw [.sl [tI]] a1/\ag a1<=1099511627776)/\0<=k/\am [m0,m1] k<=1152921504606846976):aw 80 [.agg [.s 1 m0,.s 1 m1],.j k] [.j (am [m0,m1] k)]:=by
 obtain⟨e0,e1,hk0,hkb⟩:=hp;have p0:am [m0] k<=am [m0,m1] k/\0<=am [m0] k:=bj (b:=[m1]) hk0;have p1:am [m0,m1] k<=am [m0,m1] k/\0<=am [m0,m1] k:=bj (b:=[]) hk0;refine cb MMail.B Tryz.func80 ?_
 exact Rf
namespace LQuar
structure aQ where
 szN:List aa->Int->Int
abbrev F0 :aQ:=⟨bK⟩
def ct (F:aQ):CT:=fun f ds=>match f,ds with
 |127,[.one (.s 3 es),.one (.v (.int .i64 left))]=>some (fun _=>Rw [tI,tI,tI] es/\0<=left/\left<=1048576,[.j (F.szN [es] left)])
 |157,[.one (.s 3 es)]=>some (fun _=>Rw [tI,tI,tI] es/\ag es<=1048576,[.one (.s 3 es)])
 |187,[.one (.s 3 es),d]=>some (fun _=>d=.one (.s 3 es)/\Rw [tI,tI,tI] es/\ag es<=1099511627776,[.k true])
 |_,_=>none
theorem aj :aR (ct F0):=by
 intro f ds pre res h hp;unfold ct at h;split at h<;>cases h
 exact rF hp;exact rN hp;exact ra hp
abbrev B :cy:=tb aj
end LQuar
namespace MQuar
structure aQ where
 kN:List aa->Int->Int
 mkN:aa->Int->aa
abbrev F0 :aQ:=⟨am,ao⟩
def ct (F:aQ):CT:=fun f ds=>match f,ds with
 |199,[.one (.s 3 ms),.one (.v (.int .i64 k))]=>some (fun _=>∃ es,ms=ao es k/\Rw [tI,tI,tI] es/\ag es<=1099511627776/\0<=k/\am [ms] k<=1152921504606846976,[.j (F.kN [ms] k)])
 |_,_=>none
theorem aj :aR (ct F0):=by
 intro f ds pre res h hp;unfold ct at h;split at h<;>cases h
 exact ni hp
def mt (F:aQ):MT:=fun f=>match f with
 | 193=>some fun ds=>match ds with
   |[.one (.s 3 es),.one (.v (.int .i64 k))]=>some (fun _=>Rw [tI,tI,tI] es/\ag es<=1099511627776/\0<=k/\am [es] k<=1152921504606846976,[.s 3 (F.mkN es k)],[.j (F.kN [es] k)])
   |_=>none
 |_=>none
theorem du :gR (mt F0):=by
 intro f mk h ds pre outs res hm hp;unfold mt at h;split at h
 ·cases h;dsimp only at hm;split at hm
  ·cases hm;exact nA hp
  ·cases hm
 ·cases h
abbrev B :cy:={Φ:=aQ,F0:=F0,ct:=ct,hc:=aj,mt:=mt,hm:=du}
end MQuar
theorem wI {a0:Int}{a1:aa}{left:Int}(hp:Rw [tI,tI,tI] a1/\0<=left/\left<=1048576):aw 39 [.agg [.i a0,.s 3 a1],.j left] [.j (bK [a1] left)]:=by
 obtain⟨w0,h0,h1⟩:=hp;refine cb LQuar.B Tryz.func39 ?_
 exact Rq
theorem wO {a0:Int}{a1:aa}(hp:Rw [tI,tI,tI] a1/\ax [a1]<=1048576):aw 51 [.agg [.i a0,.s 3 a1]] [.agg [.i a0,.s 3 a1]]:=by
 obtain⟨w0,hlim⟩:=hp;simp only[ax,VL]at hlim;refine cb LQuar.B Tryz.func51 ?_
 exact su
theorem wC {a0:Int}{a1:aa}{d:DV}(hp:d=.agg [.i a0,.s 3 a1]/\Rw [tI,tI,tI] a1/\ax [a1]<=1099511627776):aw 63 [.agg [.i a0,.s 3 a1],d] [.k true]:=by
 obtain⟨rfl,w0,hlim⟩:=hp;simp only[ax,VL]at hlim;refine cb LQuar.B Tryz.func63 ?_
 exact su
theorem rx {a0:Int}{a1:aa}{k:Int}(hp:Rw [tI,tI,tI] a1/\ax [a1]<=1099511627776/\0<=k/\am [a1] k<=1152921504606846976):ed 72 [.agg [.i a0,.s 3 a1],.j k] [.s 3 (ao a1 k)] [.j (am [a1] k)]:=by
 obtain⟨w0,hlim,hk0,hkb⟩:=hp;simp only[ax,VL]at hlim;have p0:am [a1] k<=am [a1] k/\0<=am [a1] k:=bj (b:=[]) hk0;refine mb MQuar.B [(2,1)] Tryz.func72 ?_
 exact Ji
theorem rl {m0:Int}{m1:aa}{k:Int}(hp:(∃ a1,m1=ao a1 k/\Rw [tI,tI,tI] a1/\ag a1<=1099511627776)/\0<=k/\am [m1] k<=1152921504606846976):aw 81 [.agg [.i m0,.s 3 m1],.j k] [.j (am [m1] k)]:=by
 obtain⟨e0,hk0,hkb⟩:=hp;have p0:am [m1] k<=am [m1] k/\0<=am [m1] k:=bj (b:=[]) hk0;refine cb MQuar.B Tryz.func81 ?_
 exact Jh
namespace LPlan
structure aQ where
 szN:List aa->Int->Int
abbrev F0 :aQ:=⟨bK⟩
def ct (F:aQ):CT:=fun f ds=>match f,ds with
 |123,[.one (.s 1 es),.one (.v (.int .i64 left))]=>some (fun _=>Rw [tI] es/\0<=left/\left<=1048576,[.j (F.szN [es] left)])
 |149,[.one (.s 1 es)]=>some (fun _=>Rw [tI] es/\ag es<=1048576,[.one (.s 1 es)])
 |179,[.one (.s 1 es),d]=>some (fun _=>d=.one (.s 1 es)/\Rw [tI] es/\ag es<=1099511627776,[.k true])
 |_,_=>none
theorem aj :aR (ct F0):=by
 intro f ds pre res h hp;unfold ct at h;split at h<;>cases h
 exact hY hp;exact hZ hp;exact hP hp
abbrev B :cy:=tb aj
end LPlan
namespace MPlan
structure aQ where
 kN:List aa->Int->Int
 mkN:aa->Int->aa
abbrev F0 :aQ:=⟨am,ao⟩
def ct (F:aQ):CT:=fun f ds=>match f,ds with
 |196,[.one (.s 1 ms),.one (.v (.int .i64 k))]=>some (fun _=>∃ es,ms=ao es k/\Rw [tI] es/\ag es<=1099511627776/\0<=k/\am [ms] k<=1152921504606846976,[.j (F.kN [ms] k)])
 |_,_=>none
theorem aj :aR (ct F0):=by
 intro f ds pre res h hp;unfold ct at h;split at h<;>cases h
 exact fL hp
def mt (F:aQ):MT:=fun f=>match f with
 | 190=>some fun ds=>match ds with
   |[.one (.s 1 es),.one (.v (.int .i64 k))]=>some (fun _=>Rw [tI] es/\ag es<=1099511627776/\0<=k/\am [es] k<=1152921504606846976,[.s 1 (F.mkN es k)],[.j (F.kN [es] k)])
   |_=>none
 |_=>none
theorem du :gR (mt F0):=by
 intro f mk h ds pre outs res hm hp;unfold mt at h;split at h
 ·cases h;dsimp only at hm;split at hm
  ·cases hm;exact fM hp
  ·cases hm
 ·cases h
abbrev B :cy:={Φ:=aQ,F0:=F0,ct:=ct,hc:=aj,mt:=mt,hm:=du}
end MPlan
theorem wH {a0 a1:Int}{a2:aa}{left:Int}(hp:Rw [tI] a2/\0<=left/\left<=1048576):aw 128 [.agg [.i a0,.i a1,.s 1 a2],.j left] [.j (bK [a2] left)]:=by
 obtain⟨w0,h0,h1⟩:=hp;refine cb LPlan.B Tryz.func128 ?_
 exact Rr
theorem wM {a0 a1:Int}{a2:aa}(hp:Rw [tI] a2/\ax [a2]<=1048576):aw 158 [.agg [.i a0,.i a1,.s 1 a2]] [.agg [.i a0,.i a1,.s 1 a2]]:=by
 obtain⟨w0,hlim⟩:=hp;simp only[ax,VL]at hlim;refine cb LPlan.B Tryz.func158 ?_
 exact su
theorem wA {a0 a1:Int}{a2:aa}{d:DV}(hp:d=.agg [.i a0,.i a1,.s 1 a2]/\Rw [tI] a2/\ax [a2]<=1099511627776):aw 188 [.agg [.i a0,.i a1,.s 1 a2],d] [.k true]:=by
 obtain⟨rfl,w0,hlim⟩:=hp;simp only[ax,VL]at hlim;refine cb LPlan.B Tryz.func188 ?_
 exact su
theorem rt {a0 a1:Int}{a2:aa}{k:Int}(hp:Rw [tI] a2/\ax [a2]<=1099511627776/\0<=k/\am [a2] k<=1152921504606846976):ed 194 [.agg [.i a0,.i a1,.s 1 a2],.j k] [.s 1 (ao a2 k)] [.j (am [a2] k)]:=by
 obtain⟨w0,hlim,hk0,hkb⟩:=hp;simp only[ax,VL]at hlim;have p0:am [a2] k<=am [a2] k/\0<=am [a2] k:=bj (b:=[]) hk0;refine mb MPlan.B [(2,2)] Tryz.func194 ?_
 exact Ji
theorem rk {m0 m1:Int}{m2:aa}{k:Int}(hp:(∃ a2,m2=ao a2 k/\Rw [tI] a2/\ag a2<=1099511627776)/\0<=k/\am [m2] k<=1152921504606846976):aw 200 [.agg [.i m0,.i m1,.s 1 m2],.j k] [.j (am [m2] k)]:=by
 obtain⟨e0,hk0,hkb⟩:=hp;have p0:am [m2] k<=am [m2] k/\0<=am [m2] k:=bj (b:=[]) hk0;refine cb MPlan.B Tryz.func200 ?_
 exact Jh
namespace LJob
structure aQ where
 szN:List aa->Int->Int
abbrev F0 :aQ:=⟨bK⟩
def ct (F:aQ):CT:=fun f ds=>match f,ds with
 |128,[.agg [.v (.int .i64 a0),.v (.int .i64 a1),.s 1 a2],.one (.v (.int .i64 left))]=>some (fun _=>Rw [tI] a2/\0<=left/\left<=1048576,[.j (F.szN [a2] left)])
 |158,[.agg [.v (.int .i64 a0),.v (.int .i64 a1),.s 1 a2]]=>some (fun _=>Rw [tI] a2/\ax [a2]<=1048576,[.agg [.i a0,.i a1,.s 1 a2]])
 |188,[.agg [.v (.int .i64 a0),.v (.int .i64 a1),.s 1 a2],d]=>some (fun _=>d=.agg [.i a0,.i a1,.s 1 a2]/\Rw [tI] a2/\ax [a2]<=1099511627776,[.k true])
 |_,_=>none
theorem aj :aR (ct F0):=by
 intro f ds pre res h hp;unfold ct at h;split at h<;>cases h
 exact wH hp;exact wM hp;exact wA hp
abbrev B :cy:=tb aj
end LJob
namespace MJob
structure aQ where
 kN:List aa->Int->Int
 mkN:aa->Int->aa
abbrev F0 :aQ:=⟨am,ao⟩
def ct (F:aQ):CT:=fun f ds=>match f,ds with
 |200,[.agg [.v (.int .i64 m0),.v (.int .i64 m1),.s 1 m2],.one (.v (.int .i64 k))]=>some (fun _=>(∃ a2,m2=ao a2 k/\Rw [tI] a2/\ag a2<=1099511627776)/\0<=k/\am [m2] k<=1152921504606846976,[.j (F.kN [m2] k)])
 |_,_=>none
theorem aj :aR (ct F0):=by
 intro f ds pre res h hp;unfold ct at h;split at h<;>cases h
 exact rk hp
def mt (F:aQ):MT:=fun f=>match f with
 | 194=>some fun ds=>match ds with
   |[.agg [.v (.int .i64 a0),.v (.int .i64 a1),.s 1 a2],.one (.v (.int .i64 k))]=>some (fun _=>Rw [tI] a2/\ax [a2]<=1099511627776/\0<=k/\am [a2] k<=1152921504606846976,[.s 1 (F.mkN a2 k)],[.j (F.kN [a2] k)])
   |_=>none
 |_=>none
theorem du :gR (mt F0):=by
 intro f mk h ds pre outs res hm hp;unfold mt at h;split at h
 ·cases h;dsimp only at hm;split at hm
  ·cases hm;exact rt hp
  ·cases hm
 ·cases h
abbrev B :cy:={Φ:=aQ,F0:=F0,ct:=ct,hc:=aj,mt:=mt,hm:=du}
end MJob
theorem yw {a0 a1:Int}{a2:aa}{a3 a4 left:Int}(hp:Rw [tI] a2/\0<=left/\left<=1048576):aw 40 [.agg [.i a0,.i a1,.s 1 a2,.i a3,.i a4],.j left] [.j (bK [a2] left)]:=by
 obtain⟨w0,h0,h1⟩:=hp;refine cb LJob.B Tryz.func40 ?_
 exact Rr
theorem yx {a0 a1:Int}{a2:aa}{a3 a4:Int}(hp:Rw [tI] a2/\ax [a2]<=1048576):aw 52 [.agg [.i a0,.i a1,.s 1 a2,.i a3,.i a4]] [.agg [.i a0,.i a1,.s 1 a2,.i a3,.i a4]]:=by
 obtain⟨w0,hlim⟩:=hp;simp only[ax,VL]at hlim;refine cb LJob.B Tryz.func52 ?_
 exact su
theorem yu {a0 a1:Int}{a2:aa}{a3 a4:Int}{d:DV}(hp:d=.agg [.i a0,.i a1,.s 1 a2,.i a3,.i a4]/\Rw [tI] a2/\ax [a2]<=1099511627776):aw 64 [.agg [.i a0,.i a1,.s 1 a2,.i a3,.i a4],d] [.k true]:=by
 obtain⟨rfl,w0,hlim⟩:=hp;simp only[ax,VL]at hlim;refine cb LJob.B Tryz.func64 ?_
 exact su
theorem tC {a0 a1:Int}{a2:aa}{a3 a4 k:Int}(hp:Rw [tI] a2/\ax [a2]<=1099511627776/\0<=k/\am [a2] k<=1152921504606846976):ed 73 [.agg [.i a0,.i a1,.s 1 a2,.i a3,.i a4],.j k] [.s 1 (ao a2 k)] [.j (am [a2] k)]:=by
 obtain⟨w0,hlim,hk0,hkb⟩:=hp;simp only[ax,VL]at hlim;have p0:am [a2] k<=am [a2] k/\0<=am [a2] k:=bj (b:=[]) hk0;refine mb MJob.B [(2,2)] Tryz.func73 ?_
 exact Ji
theorem tA {m0 m1:Int}{m2:aa}{m3 m4 k:Int}(hp:(∃ a2,m2=ao a2 k/\Rw [tI] a2/\ag a2<=1099511627776)/\0<=k/\am [m2] k<=1152921504606846976):aw 82 [.agg [.i m0,.i m1,.s 1 m2,.i m3,.i m4],.j k] [.j (am [m2] k)]:=by
 obtain⟨e0,hk0,hkb⟩:=hp;have p0:am [m2] k<=am [m2] k/\0<=am [m2] k:=bj (b:=[]) hk0;refine cb MJob.B Tryz.func82 ?_
 exact Jh
end Go.V