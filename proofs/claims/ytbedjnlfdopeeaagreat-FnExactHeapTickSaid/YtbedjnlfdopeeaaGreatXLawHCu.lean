/- Contracts. -/
import Derived.Test.YtbedjnlfdopeeaaGreatXLawHAu
import Derived.Test.YtbedjnlfdopeeaaGreatXLawHEu
set_option linter.all false
open Go
open And renaming intro->Zb
open Int renaming toNat_natCast->ZG
open IntKind renaming i64->Za
open List renaming length_replicate->Yj
open List.cons renaming injEq->Yf
open Nat renaming add_zero->Zh,zero_le->Zd,zero_add->Zy
open Value.bool renaming injEq->Yp
open Value.int renaming injEq->Yo
namespace Go.V
open Go Go.Proofs
set_option maxRecDepth 1000000
set_option maxHeartbeats 8000000
namespace LCache
structure aP where
 szN:List aa->Int->Int
abbrev F0:aP:=⟨bN⟩
def ct (F:aP):CT:=fun f ds=>match f,ds with
 |97,[.one (.s 1 es),.one (.v (.int Za left))]=>some (fun _=>Rw [.sl [tI]] es/\0<=left/\left<=1048576,[.j (F.szN [es] left)])
 |115,[.one (.s 1 es)]=>some (fun _=>Rw [.sl [tI]] es/\ah es<=1048576,[.one (.s 1 es)])
 |149,[.one (.s 1 es),d]=>some (fun _=>d=.one (.s 1 es)/\Rw [.sl [tI]] es/\ah es<=1099511627776,[.k true])
 |_,_=>none
theorem aj:aT (ct F0):=by
 intro f ds pre res h hp;unfold ct at h;split at h<;>cases h
 exact gx hp;exact gy hp;exact gw hp
abbrev B:cF:=tb aj
end LCache
theorem td {a0:aa}{left:Int}(hp:Rw [.sl [tI]] a0/\0<=left/\left<=1048576):ap 95 [.agg [.s 1 a0],.j left] [.j (bN [a0] left)]:=by
 obtain⟨w0,h0,h1⟩:=hp;refine cb LCache.B Tryz.func95 ?_
 exact SQ
theorem tp {a0:aa}(hp:Rw [.sl [tI]] a0/\av [a0]<=1048576):ap 113 [.agg [.s 1 a0]] [.agg [.s 1 a0]]:=by
 obtain⟨w0,hlim⟩:=hp;simp only[av,Zh]at hlim;refine cb LCache.B Tryz.func113 ?_
 exact rU
theorem sU {a0:aa}{d:DV}(hp:d=.agg [.s 1 a0]/\Rw [.sl [tI]] a0/\av [a0]<=1099511627776):ap 147 [.agg [.s 1 a0],d] [.k true]:=by
 obtain⟨rfl,w0,hlim⟩:=hp;simp only[av,Zh]at hlim;refine cb LCache.B Tryz.func147 ?_
 exact rU
namespace LCacheS
structure aP where
 szN:List aa->Int->Int
abbrev F0:aP:=⟨bN⟩
def ct (F:aP):CT:=fun f ds=>match f,ds with
 |95,[.agg [.s 1 a0],.one (.v (.int Za left))]=>some (fun _=>Rw [.sl [tI]] a0/\0<=left/\left<=1048576,[.j (F.szN [a0] left)])
 |113,[.agg [.s 1 a0]]=>some (fun _=>Rw [.sl [tI]] a0/\av [a0]<=1048576,[.agg [.s 1 a0]])
 |147,[.agg [.s 1 a0],d]=>some (fun _=>d=.agg [.s 1 a0]/\Rw [.sl [tI]] a0/\av [a0]<=1099511627776,[.k true])
 |_,_=>none
theorem aj:aT (ct F0):=by
 intro f ds pre res h hp;unfold ct at h;split at h<;>cases h
 exact td hp;exact tp hp;exact sU hp
abbrev B:cF:=tb aj
end LCacheS
namespace MCacheS
structure aP where
 kN:List aa->Int->Int
 mkN:aa->Int->aa
abbrev F0:aP:=⟨au,aU⟩
def ct (F:aP):CT:=fun f ds=>match f,ds with
 |160,[.one (.s 1 ms),.one (.v (.int Za k))]=>some (fun _=>∃ es,ms=aU es k/\Rw [.sl [tI]] es/\ah es<=1099511627776/\0<=k/\au [ms] k<=1152921504606846976,[.j (F.kN [ms] k)])
 |_,_=>none
theorem aj:aT (ct F0):=by
 intro f ds pre res h hp;unfold ct at h;split at h<;>cases h
 exact fi hp
def mt (F:aP):MT:=fun f=>match f with
 | 154=>some fun ds=>match ds with
   |[.one (.s 1 es),.one (.v (.int Za k))]=>some (fun _=>Rw [.sl [tI]] es/\ah es<=1099511627776/\0<=k/\au [es] k<=1152921504606846976,[.s 1 (F.mkN es k)],[.j (F.kN [es] k)])
   |_=>none
 |_=>none
theorem dB:gY (mt F0):=by
 intro f mk h ds pre outs res hm hp;unfold mt at h;split at h
 ·cases h;dsimp only at hm;split at hm
  ·cases hm;exact fj hp
  ·cases hm
 ·cases h
abbrev B:cF:={Φ:=aP,F0:=F0,ct:=ct,hc:=aj,mt:=mt,hm:=dB}
end MCacheS
theorem qS {es:aa}{left:Int}(hp:Rw [.sl [.sl [tI]]] es/\0<=left/\left<=1048576):ap 22 [.one (.s 1 es),.j left] [.j (bN [es] left)]:=by
 obtain⟨hw,h0,h1⟩:=hp;have hwf:Wf [.s 1 []] es:=hw.wf;have hm:=hw.1;unfold maxLen at hm;have hs:bK .sub Za left es.length=left-es.length:=cN (by omega);have hcE:ah es=es.length+bG es:=rfl;have hn:bN [es] left=if left<ah es then-1 else left-ah es:=by unfold bN;rw[cZ]
 refine cb LCacheS.B Tryz.func22 ?_
 intro O r F hO hr hF;cbv
 apply bu<;>intro hb<;>cbv
 ·repeat' first|apply Zb|(apply bu<;>intro hb<;>cbv)
  all_goals exact N4
 have hb0:0<=left-es.length:=by
  (subst hO hr hF;(try simp only[nc]at*);(try simp only[ak,SS,sa,az]at*))
  rw[hs]at hb;exact hb
 clear hb;refine⟨[0,1,5],[],Int×Int,fun s=>match s with|(i,l)=>[.reg 5 (.j i),.reg 1 (.j l)],fun s=>0<=s.1/\s.1.toNat<=es.length/\0<=s.2/\s.2=left-es.length-bG (es.take s.1.toNat),fun s=>es.length-s.1.toNat,⟨(0,O.ar .sub Za left (O.zi (O.ln es))),?_,?_⟩,?_⟩
 ·(subst hO hr hF;(try simp only[nc]at*);(try simp only[ak,SS,sa,az]at*))
  rw[hs];exact⟨by omega,Zd _,hb0,by simp[bG]⟩
 ·cbv
 ·rintro⟨i,l⟩ hi;replace hi:0<=i/\i.toNat<=es.length/\0<=l/\l=left-es.length-bG (es.take i.toNat):=hi;obtain⟨g0,g1,g2,g3⟩:=hi;cbv
  repeat' first|apply Zb|(apply bu<;>intro hb<;>cbv)|(refine ab (O.ar .add Za i 1,F.szN [O.gs es i 0] l) ?_ ?_ ?_;focus (cbv;done))
  all_goals(subst hO hr hF;(try simp only[nc]at*);(try simp only[ak,SS,sa,az]at*))
  all_goals have hle:=bH (es:=es) (n:=i.toNat)
  all_goals have hsz:=jv (a:=[aR es i 0]) (left:=l)
  all_goals((have hsz2:0<=bN [aR es i 0] l->bN [aR es i 0] l=l-av [aR es i 0]:=nW);(try have hlt:i<es.length:=by assumption);(try have he:es.getD i.toNat []=[.s 1 (aR es i 0)]:=(ao hwf g0 hlt).symm);(try rw[de (n:=es.length) g0 hlt (by omega)]);(try have hr0:Rw [.sl [tI]] (aR es i 0):=Rw.sub (fs:=[.sl [.sl [tI]]]) hw (by omega) rfl))
  all_goals exact N0
theorem q7 {es:aa}(hp:Rw [.sl [.sl [tI]]] es/\ah es<=1048576):ap 35 [.one (.s 1 es)] [.one (.s 1 es)]:=by
 obtain⟨hw,hlim⟩:=hp;have hwf:Wf [.s 1 []] es:=hw.wf;have hlen:=cS hlim;refine cb LCacheS.B Tryz.func35 ?_
 intro O r F hO hr hF;cbv
 have h0z:b9 es [.s 1 []] 0=O.rep (O.zi (O.ln es)) [.s 1 []]:=by
  subst hO;rw[cJ];rfl
 refine⟨?_,?_,[0,3,4],[3],Int×aa,fun s=>[.reg 4 (.j s.1),.leaf 3 0 ⟨0,0,none,.own (.s 1 s.2)⟩],fun s=>0<=s.1/\s.1.toNat<=es.length/\s.2=b9 es [.s 1 []] s.1.toNat,fun s=>es.length-s.1.toNat,⟨(0,O.rep (O.zi (O.ln es)) [.s 1 []]),?_,?_⟩,?_⟩
 ·subst hO;exact jO (b:=24) (show es.length*_<=_ by omega) (show es.length<=_ by omega)
 ·subst hO;exact⟨rfl,rfl⟩
 ·exact⟨by omega,Zd _,h0z.symm⟩
 ·cbv
 ·rintro⟨i,m⟩ hi;replace hi:0<=i/\i.toNat<=es.length/\m=b9 es [.s 1 []] i.toNat:=hi;obtain⟨g0,g1,hm⟩:=hi;cbv
  repeat' first|apply Zb|(apply bu<;>intro hb<;>cbv)|(refine ab (O.ar .add Za i 1,O.up (.s 1 m) [(O.ad 0 i,0)] [.s 1 (O.gs es i 0)]) ?_ ?_ ?_;focus (cbv;done))
  all_goals(subst hO hr hF;(try simp only[nc]at*);(try simp only[ak,SS,sa,az]at*);(try simp only[jq,Yj,ZG]at*);(try have hlt:i<es.length:=by assumption);(try have he:es.getD i.toNat []=[.s 1 (aR es i 0)]:=(ao hwf g0 hlt).symm);(try rw[de (n:=es.length) g0 hlt (by omega)]);(try have hr0:Rw [.sl [tI]] (aR es i 0):=Rw.sub (fs:=[.sl [.sl [tI]]]) hw (by omega) rfl))
  all_goals exact NZ
theorem qz {es:aa}{d:DV}(hp:d=.one (.s 1 es)/\Rw [.sl [.sl [tI]]] es/\ah es<=1099511627776):ap 49 [.one (.s 1 es),d] [.k true]:=by
 obtain⟨rfl,hw,hlim⟩:=hp;have hwf:Wf [.s 1 []] es:=hw.wf;have hlen:=cS hlim;refine cb LCacheS.B Tryz.func49 ?_
 intro O r F hO hr hF;cbv
 apply bu<;>intro hb<;>cbv
 ·(subst hO hr hF;(try simp only[nc]at*);(try simp only[ak,SS,sa,az]at*));exact absurd rfl hb
 ·clear hb;refine⟨[0,1,5],[],Int,fun i=>[.reg 5 (.j i)],fun i=>0<=i/\i.toNat<=es.length,fun i=>es.length-i.toNat,⟨0,?_,?_⟩,?_⟩;exact⟨by omega,Zd _⟩
  ·cbv
  ·rintro i hi;replace hi:0<=i/\i.toNat<=es.length:=hi;obtain⟨g0,g1⟩:=hi;cbv
   repeat' first|apply Zb|(apply bu<;>intro hb<;>cbv)|(refine ab (O.ar .add Za i 1) ?_ ?_ ?_;focus (cbv;done))
   all_goals(subst hO hr hF;(try simp only[nc]at*);(try simp only[ak,SS,sa,az]at*);(try have hlt:i<es.length:=by assumption);(try have he:es.getD i.toNat []=[.s 1 (aR es i 0)]:=(ao hwf g0 hlt).symm);(try rw[de (n:=es.length) g0 hlt (by omega)]);(try have hr0:Rw [.sl [tI]] (aR es i 0):=Rw.sub (fs:=[.sl [.sl [tI]]]) hw (by omega) rfl))
   all_goals exact N1
theorem mR {es:aa}{k:Int}(hp:Rw [.sl [.sl [tI]]] es/\ah es<=1099511627776/\0<=k/\au [es] k<=1152921504606846976):eb 58 [.one (.s 1 es),.j k] [.s 1 (aU es k)] [.j (au [es] k)]:=by
 obtain⟨hw,hlim,hk0,hkb⟩:=hp;have hwf:Wf [.s 1 []] es:=hw.wf;have hlen:=cS hlim;refine mb MCacheS.B [(0,0)] Tryz.func58 ?_
 intro O r os F hO hr hos hF;cbv
 refine⟨[0,1,5],[0],Int×Int×aa,fun s=>match s with|(i,k',cur)=>[.reg 5 (.j i),.reg 1 (.j k'),.leaf 0 0 ⟨0,0,some 0,.own (.s 1 cur)⟩],fun s=>0<=s.1/\s.1.toNat<=es.length/\s.2.1=dH es k s.1.toNat/\s.2.2=dT es k s.1.toNat,fun s=>es.length-s.1.toNat,⟨(0,k,es),?_,?_⟩,?_⟩;exact⟨by omega,Zd _,bJ.symm,db.symm⟩
 ·cbv
 ·rintro⟨i,k',cur⟩ hi;replace hi:0<=i/\i.toNat<=es.length/\k'=dH es k i.toNat/\cur=dT es k i.toNat:=hi;obtain⟨g0,g1,hk',hc⟩:=hi;cbv
  repeat' first|apply Zb|(apply bu<;>intro hb<;>cbv)|(refine ab (O.ar .add Za i 1,F.kN [O.ps (.s 1 (cur)) [(O.ad 0 i,0)]] (k'),O.up (.s 1 (cur)) [(O.ad 0 i,0)] [.s 1 (F.mkN (O.ps (.s 1 (cur)) [(O.ad 0 i,0)]) (k'))]) ?_ ?_ ?_;focus (cbv;done))
  all_goals((try subst hos);subst hO hr hF;(try simp only[nc]at*);(try simp only[ak,SS,sa,az]at*);(try have hlt:i<es.length:=by assumption);(try have he:es.getD i.toNat []=[.s 1 (aR es i 0)]:=(ao hwf g0 hlt).symm);(try have hcg:cur.getD i.toNat []=[.s 1 (aR es i 0)]:=by rw[hc,da g1];exact he);(try rw[de (n:=es.length) g0 hlt (by omega)]);(try have hlt':i.toNat<es.length:=by omega);(try have hr0:Rw [.sl [tI]] (aR es i 0):=Rw.sub (fs:=[.sl [.sl [tI]]]) hw (by omega) rfl))
  all_goals exact Vb
theorem mJ {ms:aa}{k:Int}(hp:∃ es,ms=aU es k/\Rw [.sl [.sl [tI]]] es/\ah es<=1099511627776/\0<=k/\au [ms] k<=1152921504606846976):ap 67 [.one (.s 1 ms),.j k] [.j (au [ms] k)]:=by
 obtain⟨es,hms,hw,hlim,hk0,hkb⟩:=hp;have hlen:=cS hlim;have hml:ms.length=es.length:=by rw[hms];exact ca
 have hkk:au [ms] k=au [es] k:=by rw[hms];exact jM
 have hwm:Wf [.s 1 []] ms:=by rw[hms];exact cI hw
 have hwf:Wf [.s 1 []] es:=hw.wf;have hat:∀ n,n<es.length->ms.getD n []=(eh (es.getD n []) (dH es k n)).1:=fun n hn=>by rw[hms];exact fX hn
 refine cb MCacheS.B Tryz.func67 ?_
 intro O r F hO hr hF;cbv
 refine⟨[0,1,5],[],Int×Int,fun s=>match s with|(i,k')=>[.reg 5 (.j i),.reg 1 (.j k')],fun s=>0<=s.1/\s.1.toNat<=es.length/\s.2=dH es k s.1.toNat,fun s=>es.length-s.1.toNat,⟨(0,k),?_,?_⟩,?_⟩;exact⟨by omega,Zd _,bJ.symm⟩
 ·cbv
 ·rintro⟨i,k'⟩ hi;replace hi:0<=i/\i.toNat<=es.length/\k'=dH es k i.toNat:=hi;obtain⟨g0,g1,hk'⟩:=hi;cbv
  repeat' first|apply Zb|(apply bu<;>intro hb<;>cbv)|(refine ab (O.ar .add Za i 1,F.kN [O.gs ms i 0] (k')) ?_ ?_ ?_;focus (cbv;done))
  all_goals(subst hO hr hF;(try simp only[nc]at*);(try simp only[ak,SS,sa,az]at*);(try have hltm:i<ms.length:=by assumption);(try have hlt:i<es.length:=by omega);(try have he:es.getD i.toNat []=[.s 1 (aR es i 0)]:=(ao hwf g0 hlt).symm);(try rw[de (n:=es.length) g0 hlt (by omega)]);(try have hlt':i.toNat<es.length:=by omega);(try have hr0:Rw [.sl [tI]] (aR es i 0):=Rw.sub (fs:=[.sl [.sl [tI]]]) hw (by omega) rfl);(try have hct:=cu (es:=es) (n:=i.toNat) (by omega);rw[he]at hct;simp only[cP,eA,Zh,Zy]at hct);(try have hks:=cK (es:=es) (k:=k) hlt';rw[he]at hks;simp only[eh,eN]at hks);(try have hem:([.s 1 (aR ms i 0)]:ay)=_:=(ao hwm g0 hltm).trans (hat i.toNat hlt');rw[he]at hem;simp only[eh,eN,Yf,L.v.injEq,Yo,Yp,L.s.injEq,true_and,and_true]at hem))
  all_goals exact Vd
namespace LPostSS
structure aP where
 szN:List aa->Int->Int
abbrev F0:aP:=⟨bN⟩
def ct (F:aP):CT:=fun f ds=>match f,ds with
 |211,[.one (.s 2 es),.one (.v (.int Za left))]=>some (fun _=>Rw [tI,tI] es/\0<=left/\left<=1048576,[.j (F.szN [es] left)])
 |219,[.one (.s 2 es)]=>some (fun _=>Rw [tI,tI] es/\ah es<=1048576,[.one (.s 2 es)])
 |249,[.one (.s 2 es),d]=>some (fun _=>d=.one (.s 2 es)/\Rw [tI,tI] es/\ah es<=1099511627776,[.k true])
 |_,_=>none
theorem aj:aT (ct F0):=by
 intro f ds pre res h hp;unfold ct at h;split at h<;>cases h
 exact te hp;exact tu hp;exact sX hp
abbrev B:cF:=tb aj
end LPostSS
namespace MPostSS
structure aP where
 kN:List aa->Int->Int
 mkN:aa->Int->aa
abbrev F0:aP:=⟨au,aU⟩
def ct (F:aP):CT:=fun f ds=>match f,ds with
 |256,[.one (.s 2 ms),.one (.v (.int Za k))]=>some (fun _=>∃ es,ms=aU es k/\Rw [tI,tI] es/\ah es<=1099511627776/\0<=k/\au [ms] k<=1152921504606846976,[.j (F.kN [ms] k)])
 |_,_=>none
theorem aj:aT (ct F0):=by
 intro f ds pre res h hp;unfold ct at h;split at h<;>cases h
 exact oF hp
def mt (F:aP):MT:=fun f=>match f with
 | 253=>some fun ds=>match ds with
   |[.one (.s 2 es),.one (.v (.int Za k))]=>some (fun _=>Rw [tI,tI] es/\ah es<=1099511627776/\0<=k/\au [es] k<=1152921504606846976,[.s 2 (F.mkN es k)],[.j (F.kN [es] k)])
   |_=>none
 |_=>none
theorem dB:gY (mt F0):=by
 intro f mk h ds pre outs res hm hp;unfold mt at h;split at h
 ·cases h;dsimp only at hm;split at hm
  ·cases hm;exact oJ hp
  ·cases hm
 ·cases h
abbrev B:cF:={Φ:=aP,F0:=F0,ct:=ct,hc:=aj,mt:=mt,hm:=dB}
end MPostSS
theorem qX {es:aa}{left:Int}(hp:Rw [.sl [tI,tI]] es/\0<=left/\left<=1048576):ap 96 [.one (.s 1 es),.j left] [.j (bN [es] left)]:=by
 obtain⟨hw,h0,h1⟩:=hp;have hwf:Wf [.s 2 []] es:=hw.wf;have hm:=hw.1;unfold maxLen at hm;have hs:bK .sub Za left es.length=left-es.length:=cN (by omega);have hcE:ah es=es.length+bG es:=rfl;have hn:bN [es] left=if left<ah es then-1 else left-ah es:=by unfold bN;rw[cZ]
 refine cb LPostSS.B Tryz.func96 ?_
 intro O r F hO hr hF;cbv
 apply bu<;>intro hb<;>cbv
 ·repeat' first|apply Zb|(apply bu<;>intro hb<;>cbv)
  all_goals exact N4
 have hb0:0<=left-es.length:=by
  (subst hO hr hF;(try simp only[nc]at*);(try simp only[ak,SS,sa,az]at*))
  rw[hs]at hb;exact hb
 clear hb;refine⟨[0,1,5],[],Int×Int,fun s=>match s with|(i,l)=>[.reg 5 (.j i),.reg 1 (.j l)],fun s=>0<=s.1/\s.1.toNat<=es.length/\0<=s.2/\s.2=left-es.length-bG (es.take s.1.toNat),fun s=>es.length-s.1.toNat,⟨(0,O.ar .sub Za left (O.zi (O.ln es))),?_,?_⟩,?_⟩
 ·(subst hO hr hF;(try simp only[nc]at*);(try simp only[ak,SS,sa,az]at*))
  rw[hs];exact⟨by omega,Zd _,hb0,by simp[bG]⟩
 ·cbv
 ·rintro⟨i,l⟩ hi;replace hi:0<=i/\i.toNat<=es.length/\0<=l/\l=left-es.length-bG (es.take i.toNat):=hi;obtain⟨g0,g1,g2,g3⟩:=hi;cbv
  repeat' first|apply Zb|(apply bu<;>intro hb<;>cbv)|(refine ab (O.ar .add Za i 1,F.szN [O.gs es i 0] l) ?_ ?_ ?_;focus (cbv;done))
  all_goals(subst hO hr hF;(try simp only[nc]at*);(try simp only[ak,SS,sa,az]at*))
  all_goals have hle:=bH (es:=es) (n:=i.toNat)
  all_goals have hsz:=jv (a:=[aR es i 0]) (left:=l)
  all_goals((have hsz2:0<=bN [aR es i 0] l->bN [aR es i 0] l=l-av [aR es i 0]:=nW);(try have hlt:i<es.length:=by assumption);(try have he:es.getD i.toNat []=[.s 2 (aR es i 0)]:=(ao hwf g0 hlt).symm);(try rw[de (n:=es.length) g0 hlt (by omega)]);(try have hr0:Rw [tI,tI] (aR es i 0):=Rw.sub (fs:=[.sl [tI,tI]]) hw (by omega) rfl))
  all_goals exact N0
theorem ri {es:aa}(hp:Rw [.sl [tI,tI]] es/\ah es<=1048576):ap 114 [.one (.s 1 es)] [.one (.s 1 es)]:=by
 obtain⟨hw,hlim⟩:=hp;have hwf:Wf [.s 2 []] es:=hw.wf;have hlen:=cS hlim;refine cb LPostSS.B Tryz.func114 ?_
 intro O r F hO hr hF;cbv
 have h0z:b9 es [.s 2 []] 0=O.rep (O.zi (O.ln es)) [.s 2 []]:=by
  subst hO;rw[cJ];rfl
 refine⟨?_,?_,[0,3,4],[3],Int×aa,fun s=>[.reg 4 (.j s.1),.leaf 3 0 ⟨0,0,none,.own (.s 1 s.2)⟩],fun s=>0<=s.1/\s.1.toNat<=es.length/\s.2=b9 es [.s 2 []] s.1.toNat,fun s=>es.length-s.1.toNat,⟨(0,O.rep (O.zi (O.ln es)) [.s 2 []]),?_,?_⟩,?_⟩
 ·subst hO;exact jO (b:=24) (show es.length*_<=_ by omega) (show es.length<=_ by omega)
 ·subst hO;exact⟨rfl,rfl⟩
 ·exact⟨by omega,Zd _,h0z.symm⟩
 ·cbv
 ·rintro⟨i,m⟩ hi;replace hi:0<=i/\i.toNat<=es.length/\m=b9 es [.s 2 []] i.toNat:=hi;obtain⟨g0,g1,hm⟩:=hi;cbv
  repeat' first|apply Zb|(apply bu<;>intro hb<;>cbv)|(refine ab (O.ar .add Za i 1,O.up (.s 1 m) [(O.ad 0 i,0)] [.s 2 (O.gs es i 0)]) ?_ ?_ ?_;focus (cbv;done))
  all_goals(subst hO hr hF;(try simp only[nc]at*);(try simp only[ak,SS,sa,az]at*);(try simp only[jq,Yj,ZG]at*);(try have hlt:i<es.length:=by assumption);(try have he:es.getD i.toNat []=[.s 2 (aR es i 0)]:=(ao hwf g0 hlt).symm);(try rw[de (n:=es.length) g0 hlt (by omega)]);(try have hr0:Rw [tI,tI] (aR es i 0):=Rw.sub (fs:=[.sl [tI,tI]]) hw (by omega) rfl))
  all_goals exact NZ
theorem qF {es:aa}{d:DV}(hp:d=.one (.s 1 es)/\Rw [.sl [tI,tI]] es/\ah es<=1099511627776):ap 148 [.one (.s 1 es),d] [.k true]:=by
 obtain⟨rfl,hw,hlim⟩:=hp;have hwf:Wf [.s 2 []] es:=hw.wf;have hlen:=cS hlim;refine cb LPostSS.B Tryz.func148 ?_
 intro O r F hO hr hF;cbv
 apply bu<;>intro hb<;>cbv
 ·(subst hO hr hF;(try simp only[nc]at*);(try simp only[ak,SS,sa,az]at*));exact absurd rfl hb
 ·clear hb;refine⟨[0,1,5],[],Int,fun i=>[.reg 5 (.j i)],fun i=>0<=i/\i.toNat<=es.length,fun i=>es.length-i.toNat,⟨0,?_,?_⟩,?_⟩;exact⟨by omega,Zd _⟩
  ·cbv
  ·rintro i hi;replace hi:0<=i/\i.toNat<=es.length:=hi;obtain⟨g0,g1⟩:=hi;cbv
   repeat' first|apply Zb|(apply bu<;>intro hb<;>cbv)|(refine ab (O.ar .add Za i 1) ?_ ?_ ?_;focus (cbv;done))
   all_goals(subst hO hr hF;(try simp only[nc]at*);(try simp only[ak,SS,sa,az]at*);(try have hlt:i<es.length:=by assumption);(try have he:es.getD i.toNat []=[.s 2 (aR es i 0)]:=(ao hwf g0 hlt).symm);(try rw[de (n:=es.length) g0 hlt (by omega)]);(try have hr0:Rw [tI,tI] (aR es i 0):=Rw.sub (fs:=[.sl [tI,tI]]) hw (by omega) rfl))
   all_goals exact N1
theorem mW {es:aa}{k:Int}(hp:Rw [.sl [tI,tI]] es/\ah es<=1099511627776/\0<=k/\au [es] k<=1152921504606846976):eb 155 [.one (.s 1 es),.j k] [.s 1 (aU es k)] [.j (au [es] k)]:=by
 obtain⟨hw,hlim,hk0,hkb⟩:=hp;have hwf:Wf [.s 2 []] es:=hw.wf;have hlen:=cS hlim;refine mb MPostSS.B [(0,0)] Tryz.func155 ?_
 intro O r os F hO hr hos hF;cbv
 refine⟨[0,1,5],[0],Int×Int×aa,fun s=>match s with|(i,k',cur)=>[.reg 5 (.j i),.reg 1 (.j k'),.leaf 0 0 ⟨0,0,some 0,.own (.s 1 cur)⟩],fun s=>0<=s.1/\s.1.toNat<=es.length/\s.2.1=dH es k s.1.toNat/\s.2.2=dT es k s.1.toNat,fun s=>es.length-s.1.toNat,⟨(0,k,es),?_,?_⟩,?_⟩;exact⟨by omega,Zd _,bJ.symm,db.symm⟩
 ·cbv
 ·rintro⟨i,k',cur⟩ hi;replace hi:0<=i/\i.toNat<=es.length/\k'=dH es k i.toNat/\cur=dT es k i.toNat:=hi;obtain⟨g0,g1,hk',hc⟩:=hi;cbv
  repeat' first|apply Zb|(apply bu<;>intro hb<;>cbv)|(refine ab (O.ar .add Za i 1,F.kN [O.ps (.s 1 (cur)) [(O.ad 0 i,0)]] (k'),O.up (.s 1 (cur)) [(O.ad 0 i,0)] [.s 2 (F.mkN (O.ps (.s 1 (cur)) [(O.ad 0 i,0)]) (k'))]) ?_ ?_ ?_;focus (cbv;done))
  all_goals((try subst hos);subst hO hr hF;(try simp only[nc]at*);(try simp only[ak,SS,sa,az]at*);(try have hlt:i<es.length:=by assumption);(try have he:es.getD i.toNat []=[.s 2 (aR es i 0)]:=(ao hwf g0 hlt).symm);(try have hcg:cur.getD i.toNat []=[.s 2 (aR es i 0)]:=by rw[hc,da g1];exact he);(try rw[de (n:=es.length) g0 hlt (by omega)]);(try have hlt':i.toNat<es.length:=by omega);(try have hr0:Rw [tI,tI] (aR es i 0):=Rw.sub (fs:=[.sl [tI,tI]]) hw (by omega) rfl))
  all_goals exact Vb
theorem mO {ms:aa}{k:Int}(hp:∃ es,ms=aU es k/\Rw [.sl [tI,tI]] es/\ah es<=1099511627776/\0<=k/\au [ms] k<=1152921504606846976):ap 161 [.one (.s 1 ms),.j k] [.j (au [ms] k)]:=by
 obtain⟨es,hms,hw,hlim,hk0,hkb⟩:=hp;have hlen:=cS hlim;have hml:ms.length=es.length:=by rw[hms];exact ca
 have hkk:au [ms] k=au [es] k:=by rw[hms];exact jM
 have hwm:Wf [.s 2 []] ms:=by rw[hms];exact cI hw
 have hwf:Wf [.s 2 []] es:=hw.wf;have hat:∀ n,n<es.length->ms.getD n []=(eh (es.getD n []) (dH es k n)).1:=fun n hn=>by rw[hms];exact fX hn
 refine cb MPostSS.B Tryz.func161 ?_
 intro O r F hO hr hF;cbv
 refine⟨[0,1,5],[],Int×Int,fun s=>match s with|(i,k')=>[.reg 5 (.j i),.reg 1 (.j k')],fun s=>0<=s.1/\s.1.toNat<=es.length/\s.2=dH es k s.1.toNat,fun s=>es.length-s.1.toNat,⟨(0,k),?_,?_⟩,?_⟩;exact⟨by omega,Zd _,bJ.symm⟩
 ·cbv
 ·rintro⟨i,k'⟩ hi;replace hi:0<=i/\i.toNat<=es.length/\k'=dH es k i.toNat:=hi;obtain⟨g0,g1,hk'⟩:=hi;cbv
  repeat' first|apply Zb|(apply bu<;>intro hb<;>cbv)|(refine ab (O.ar .add Za i 1,F.kN [O.gs ms i 0] (k')) ?_ ?_ ?_;focus (cbv;done))
  all_goals(subst hO hr hF;(try simp only[nc]at*);(try simp only[ak,SS,sa,az]at*);(try have hltm:i<ms.length:=by assumption);(try have hlt:i<es.length:=by omega);(try have he:es.getD i.toNat []=[.s 2 (aR es i 0)]:=(ao hwf g0 hlt).symm);(try rw[de (n:=es.length) g0 hlt (by omega)]);(try have hlt':i.toNat<es.length:=by omega);(try have hr0:Rw [tI,tI] (aR es i 0):=Rw.sub (fs:=[.sl [tI,tI]]) hw (by omega) rfl);(try have hct:=cu (es:=es) (n:=i.toNat) (by omega);rw[he]at hct;simp only[cP,eA,Zh,Zy]at hct);(try have hks:=cK (es:=es) (k:=k) hlt';rw[he]at hks;simp only[eh,eN]at hks);(try have hem:([.s 2 (aR ms i 0)]:ay)=_:=(ao hwm g0 hltm).trans (hat i.toNat hlt');rw[he]at hem;simp only[eh,eN,Yf,L.v.injEq,Yo,Yp,L.s.injEq,true_and,and_true]at hem))
  all_goals exact Vd
namespace LMail
structure aP where
 szN:List aa->Int->Int
abbrev F0:aP:=⟨bN⟩
def ct (F:aP):CT:=fun f ds=>match f,ds with
 |96,[.one (.s 1 es),.one (.v (.int Za left))]=>some (fun _=>Rw [.sl [tI,tI]] es/\0<=left/\left<=1048576,[.j (F.szN [es] left)])
 |114,[.one (.s 1 es)]=>some (fun _=>Rw [.sl [tI,tI]] es/\ah es<=1048576,[.one (.s 1 es)])
 |148,[.one (.s 1 es),d]=>some (fun _=>d=.one (.s 1 es)/\Rw [.sl [tI,tI]] es/\ah es<=1099511627776,[.k true])
 |97,[.one (.s 1 es),.one (.v (.int Za left))]=>some (fun _=>Rw [.sl [tI]] es/\0<=left/\left<=1048576,[.j (F.szN [es] left)])
 |115,[.one (.s 1 es)]=>some (fun _=>Rw [.sl [tI]] es/\ah es<=1048576,[.one (.s 1 es)])
 |149,[.one (.s 1 es),d]=>some (fun _=>d=.one (.s 1 es)/\Rw [.sl [tI]] es/\ah es<=1099511627776,[.k true])
 |_,_=>none
theorem aj:aT (ct F0):=by
 intro f ds pre res h hp;unfold ct at h;split at h<;>cases h
 exact qX hp;exact ri hp;exact qF hp;exact gx hp;exact gy hp;exact gw hp
abbrev B:cF:=tb aj
end LMail
namespace MMail
structure aP where
 kN:List aa->Int->Int
 mkN:aa->Int->aa
abbrev F0:aP:=⟨au,aU⟩
def ct (F:aP):CT:=fun f ds=>match f,ds with
 |161,[.one (.s 1 ms),.one (.v (.int Za k))]=>some (fun _=>∃ es,ms=aU es k/\Rw [.sl [tI,tI]] es/\ah es<=1099511627776/\0<=k/\au [ms] k<=1152921504606846976,[.j (F.kN [ms] k)])
 |160,[.one (.s 1 ms),.one (.v (.int Za k))]=>some (fun _=>∃ es,ms=aU es k/\Rw [.sl [tI]] es/\ah es<=1099511627776/\0<=k/\au [ms] k<=1152921504606846976,[.j (F.kN [ms] k)])
 |_,_=>none
theorem aj:aT (ct F0):=by
 intro f ds pre res h hp;unfold ct at h;split at h<;>cases h
 exact mO hp;exact fi hp
def mt (F:aP):MT:=fun f=>match f with
 | 155=>some fun ds=>match ds with
   |[.one (.s 1 es),.one (.v (.int Za k))]=>some (fun _=>Rw [.sl [tI,tI]] es/\ah es<=1099511627776/\0<=k/\au [es] k<=1152921504606846976,[.s 1 (F.mkN es k)],[.j (F.kN [es] k)])
   |_=>none
 | 154=>some fun ds=>match ds with
   |[.one (.s 1 es),.one (.v (.int Za k))]=>some (fun _=>Rw [.sl [tI]] es/\ah es<=1099511627776/\0<=k/\au [es] k<=1152921504606846976,[.s 1 (F.mkN es k)],[.j (F.kN [es] k)])
   |_=>none
 |_=>none
theorem dB:gY (mt F0):=by
 intro f mk h ds pre outs res hm hp;unfold mt at h;split at h
 ·cases h;dsimp only at hm;split at hm
  ·cases hm;exact mW hp
  ·cases hm
 ·cases h;dsimp only at hm;split at hm
  ·cases hm;exact fj hp
  ·cases hm
 ·cases h
abbrev B:cF:={Φ:=aP,F0:=F0,ct:=ct,hc:=aj,mt:=mt,hm:=dB}
end MMail
theorem wg {a0 a1:aa}{left:Int}(hp:Rw [.sl [tI,tI]] a0/\Rw [.sl [tI]] a1/\0<=left/\left<=1048576):ap 23 [.agg [.s 1 a0,.s 1 a1],.j left] [.j (bN [a0,a1] left)]:=by
 obtain⟨w0,w1,h0,h1⟩:=hp;refine cb LMail.B Tryz.func23 ?_
 intro O r F hO hr hF;cbv
 repeat' first|apply Zb|(apply bu<;>intro hb<;>cbv)
 all_goals(subst hO hr hF;(try simp only[nc]at*);(try simp only[ak,SS,sa,az]at*))
 all_goals iterate 1 (try simp(disch:=assumption) only[ia,List.cons_append,List.nil_append]at*)
 all_goals exact S9
theorem wm {a0 a1:aa}(hp:Rw [.sl [tI,tI]] a0/\Rw [.sl [tI]] a1/\av [a0,a1]<=1048576):ap 36 [.agg [.s 1 a0,.s 1 a1]] [.agg [.s 1 a0,.s 1 a1]]:=by
 obtain⟨w0,w1,hlim⟩:=hp;simp only[av,Zh]at hlim;refine cb LMail.B Tryz.func36 ?_
 exact S7
theorem vZ {a0 a1:aa}{d:DV}(hp:d=.agg [.s 1 a0,.s 1 a1]/\Rw [.sl [tI,tI]] a0/\Rw [.sl [tI]] a1/\av [a0,a1]<=1099511627776):ap 50 [.agg [.s 1 a0,.s 1 a1],d] [.k true]:=by
 obtain⟨rfl,w0,w1,hlim⟩:=hp;simp only[av,Zh]at hlim;refine cb LMail.B Tryz.func50 ?_
 exact SZ
theorem qO {a0 a1:aa}{k:Int}(hp:Rw [.sl [tI,tI]] a0/\Rw [.sl [tI]] a1/\av [a0,a1]<=1099511627776/\0<=k/\au [a0,a1] k<=1152921504606846976):eb 59 [.agg [.s 1 a0,.s 1 a1],.j k] [.s 1 (aU a0 k),.s 1 (aU a1 (au [a0] k))] [.j (au [a0,a1] k)]:=by
 obtain⟨w0,w1,hlim,hk0,hkb⟩:=hp;simp only[av,Zh]at hlim;have p0:au [a0] k<=au [a0,a1] k/\0<=au [a0] k:=bz (b:=[a1]) hk0;have p1:au [a0,a1] k<=au [a0,a1] k/\0<=au [a0,a1] k:=bz (b:=[]) hk0;refine mb MMail.B [(2,0),(2,1)] Tryz.func59 ?_
 exact Jy
theorem qJ {m0 m1:aa}{k:Int}(hp:(∃ a0,m0=aU a0 k/\Rw [.sl [tI,tI]] a0/\ah a0<=1099511627776)/\(∃ a1,m1=aU a1 (au [m0] k)/\Rw [.sl [tI]] a1/\ah a1<=1099511627776)/\0<=k/\au [m0,m1] k<=1152921504606846976):ap 68 [.agg [.s 1 m0,.s 1 m1],.j k] [.j (au [m0,m1] k)]:=by
 obtain⟨e0,e1,hk0,hkb⟩:=hp;have p0:au [m0] k<=au [m0,m1] k/\0<=au [m0] k:=bz (b:=[m1]) hk0;have p1:au [m0,m1] k<=au [m0,m1] k/\0<=au [m0,m1] k:=bz (b:=[]) hk0;refine cb MMail.B Tryz.func68 ?_
 exact SF
namespace LQuar
structure aP where
 szN:List aa->Int->Int
abbrev F0:aP:=⟨bN⟩
def ct (F:aP):CT:=fun f ds=>match f,ds with
 |98,[.one (.s 3 es),.one (.v (.int Za left))]=>some (fun _=>Rw [tI,tI,tI] es/\0<=left/\left<=1048576,[.j (F.szN [es] left)])
 |116,[.one (.s 3 es)]=>some (fun _=>Rw [tI,tI,tI] es/\ah es<=1048576,[.one (.s 3 es)])
 |150,[.one (.s 3 es),d]=>some (fun _=>d=.one (.s 3 es)/\Rw [tI,tI,tI] es/\ah es<=1099511627776,[.k true])
 |_,_=>none
theorem aj:aT (ct F0):=by
 intro f ds pre res h hp;unfold ct at h;split at h<;>cases h
 exact qZ hp;exact rq hp;exact qH hp
abbrev B:cF:=tb aj
end LQuar
namespace MQuar
structure aP where
 kN:List aa->Int->Int
 mkN:aa->Int->aa
abbrev F0:aP:=⟨au,aU⟩
def ct (F:aP):CT:=fun f ds=>match f,ds with
 |162,[.one (.s 3 ms),.one (.v (.int Za k))]=>some (fun _=>∃ es,ms=aU es k/\Rw [tI,tI,tI] es/\ah es<=1099511627776/\0<=k/\au [ms] k<=1152921504606846976,[.j (F.kN [ms] k)])
 |_,_=>none
theorem aj:aT (ct F0):=by
 intro f ds pre res h hp;unfold ct at h;split at h<;>cases h
 exact mQ hp
def mt (F:aP):MT:=fun f=>match f with
 | 156=>some fun ds=>match ds with
   |[.one (.s 3 es),.one (.v (.int Za k))]=>some (fun _=>Rw [tI,tI,tI] es/\ah es<=1099511627776/\0<=k/\au [es] k<=1152921504606846976,[.s 3 (F.mkN es k)],[.j (F.kN [es] k)])
   |_=>none
 |_=>none
theorem dB:gY (mt F0):=by
 intro f mk h ds pre outs res hm hp;unfold mt at h;split at h
 ·cases h;dsimp only at hm;split at hm
  ·cases hm;exact mY hp
  ·cases hm
 ·cases h
abbrev B:cF:={Φ:=aP,F0:=F0,ct:=ct,hc:=aj,mt:=mt,hm:=dB}
end MQuar
theorem wj {a0:Int}{a1:aa}{left:Int}(hp:Rw [tI,tI,tI] a1/\0<=left/\left<=1048576):ap 24 [.agg [.i a0,.s 3 a1],.j left] [.j (bN [a1] left)]:=by
 obtain⟨w0,h0,h1⟩:=hp;refine cb LQuar.B Tryz.func24 ?_
 exact SQ
theorem wv {a0:Int}{a1:aa}(hp:Rw [tI,tI,tI] a1/\av [a1]<=1048576):ap 37 [.agg [.i a0,.s 3 a1]] [.agg [.i a0,.s 3 a1]]:=by
 obtain⟨w0,hlim⟩:=hp;simp only[av,Zh]at hlim;refine cb LQuar.B Tryz.func37 ?_
 exact rU
theorem v8 {a0:Int}{a1:aa}{d:DV}(hp:d=.agg [.i a0,.s 3 a1]/\Rw [tI,tI,tI] a1/\av [a1]<=1099511627776):ap 51 [.agg [.i a0,.s 3 a1],d] [.k true]:=by
 obtain⟨rfl,w0,hlim⟩:=hp;simp only[av,Zh]at hlim;refine cb LQuar.B Tryz.func51 ?_
 exact rU
theorem qR {a0:Int}{a1:aa}{k:Int}(hp:Rw [tI,tI,tI] a1/\av [a1]<=1099511627776/\0<=k/\au [a1] k<=1152921504606846976):eb 60 [.agg [.i a0,.s 3 a1],.j k] [.s 3 (aU a1 k)] [.j (au [a1] k)]:=by
 obtain⟨w0,hlim,hk0,hkb⟩:=hp;simp only[av,Zh]at hlim;have p0:au [a1] k<=au [a1] k/\0<=au [a1] k:=bz (b:=[]) hk0;refine mb MQuar.B [(2,1)] Tryz.func60 ?_
 exact JA
theorem qM {m0:Int}{m1:aa}{k:Int}(hp:(∃ a1,m1=aU a1 k/\Rw [tI,tI,tI] a1/\ah a1<=1099511627776)/\0<=k/\au [m1] k<=1152921504606846976):ap 69 [.agg [.i m0,.s 3 m1],.j k] [.j (au [m1] k)]:=by
 obtain⟨e0,hk0,hkb⟩:=hp;have p0:au [m1] k<=au [m1] k/\0<=au [m1] k:=bz (b:=[]) hk0;refine cb MQuar.B Tryz.func69 ?_
 exact Jz
namespace LPlan
structure aP where
 szN:List aa->Int->Int
abbrev F0:aP:=⟨bN⟩
def ct (F:aP):CT:=fun f ds=>match f,ds with
 |94,[.one (.s 1 es),.one (.v (.int Za left))]=>some (fun _=>Rw [tI] es/\0<=left/\left<=1048576,[.j (F.szN [es] left)])
 |108,[.one (.s 1 es)]=>some (fun _=>Rw [tI] es/\ah es<=1048576,[.one (.s 1 es)])
 |142,[.one (.s 1 es),d]=>some (fun _=>d=.one (.s 1 es)/\Rw [tI] es/\ah es<=1099511627776,[.k true])
 |_,_=>none
theorem aj:aT (ct F0):=by
 intro f ds pre res h hp;unfold ct at h;split at h<;>cases h
 exact ig hp;exact il hp;exact ie hp
abbrev B:cF:=tb aj
end LPlan
namespace MPlan
structure aP where
 kN:List aa->Int->Int
 mkN:aa->Int->aa
abbrev F0:aP:=⟨au,aU⟩
def ct (F:aP):CT:=fun f ds=>match f,ds with
 |159,[.one (.s 1 ms),.one (.v (.int Za k))]=>some (fun _=>∃ es,ms=aU es k/\Rw [tI] es/\ah es<=1099511627776/\0<=k/\au [ms] k<=1152921504606846976,[.j (F.kN [ms] k)])
 |_,_=>none
theorem aj:aT (ct F0):=by
 intro f ds pre res h hp;unfold ct at h;split at h<;>cases h
 exact fS hp
def mt (F:aP):MT:=fun f=>match f with
 | 153=>some fun ds=>match ds with
   |[.one (.s 1 es),.one (.v (.int Za k))]=>some (fun _=>Rw [tI] es/\ah es<=1099511627776/\0<=k/\au [es] k<=1152921504606846976,[.s 1 (F.mkN es k)],[.j (F.kN [es] k)])
   |_=>none
 |_=>none
theorem dB:gY (mt F0):=by
 intro f mk h ds pre outs res hm hp;unfold mt at h;split at h
 ·cases h;dsimp only at hm;split at hm
  ·cases hm;exact fT hp
  ·cases hm
 ·cases h
abbrev B:cF:={Φ:=aP,F0:=F0,ct:=ct,hc:=aj,mt:=mt,hm:=dB}
end MPlan
theorem wi {a0 a1:Int}{a2:aa}{left:Int}(hp:Rw [tI] a2/\0<=left/\left<=1048576):ap 99 [.agg [.i a0,.i a1,.s 1 a2],.j left] [.j (bN [a2] left)]:=by
 obtain⟨w0,h0,h1⟩:=hp;refine cb LPlan.B Tryz.func99 ?_
 exact SR
theorem wq {a0 a1:Int}{a2:aa}(hp:Rw [tI] a2/\av [a2]<=1048576):ap 117 [.agg [.i a0,.i a1,.s 1 a2]] [.agg [.i a0,.i a1,.s 1 a2]]:=by
 obtain⟨w0,hlim⟩:=hp;simp only[av,Zh]at hlim;refine cb LPlan.B Tryz.func117 ?_
 exact rU
theorem v6 {a0 a1:Int}{a2:aa}{d:DV}(hp:d=.agg [.i a0,.i a1,.s 1 a2]/\Rw [tI] a2/\av [a2]<=1099511627776):ap 151 [.agg [.i a0,.i a1,.s 1 a2],d] [.k true]:=by
 obtain⟨rfl,w0,hlim⟩:=hp;simp only[av,Zh]at hlim;refine cb LPlan.B Tryz.func151 ?_
 exact rU
theorem qQ {a0 a1:Int}{a2:aa}{k:Int}(hp:Rw [tI] a2/\av [a2]<=1099511627776/\0<=k/\au [a2] k<=1152921504606846976):eb 157 [.agg [.i a0,.i a1,.s 1 a2],.j k] [.s 1 (aU a2 k)] [.j (au [a2] k)]:=by
 obtain⟨w0,hlim,hk0,hkb⟩:=hp;simp only[av,Zh]at hlim;have p0:au [a2] k<=au [a2] k/\0<=au [a2] k:=bz (b:=[]) hk0;refine mb MPlan.B [(2,2)] Tryz.func157 ?_
 exact JA
theorem qL {m0 m1:Int}{m2:aa}{k:Int}(hp:(∃ a2,m2=aU a2 k/\Rw [tI] a2/\ah a2<=1099511627776)/\0<=k/\au [m2] k<=1152921504606846976):ap 163 [.agg [.i m0,.i m1,.s 1 m2],.j k] [.j (au [m2] k)]:=by
 obtain⟨e0,hk0,hkb⟩:=hp;have p0:au [m2] k<=au [m2] k/\0<=au [m2] k:=bz (b:=[]) hk0;refine cb MPlan.B Tryz.func163 ?_
 exact Jz
namespace LJob
structure aP where
 szN:List aa->Int->Int
abbrev F0:aP:=⟨bN⟩
def ct (F:aP):CT:=fun f ds=>match f,ds with
 |99,[.agg [.v (.int Za a0),.v (.int Za a1),.s 1 a2],.one (.v (.int Za left))]=>some (fun _=>Rw [tI] a2/\0<=left/\left<=1048576,[.j (F.szN [a2] left)])
 |117,[.agg [.v (.int Za a0),.v (.int Za a1),.s 1 a2]]=>some (fun _=>Rw [tI] a2/\av [a2]<=1048576,[.agg [.i a0,.i a1,.s 1 a2]])
 |151,[.agg [.v (.int Za a0),.v (.int Za a1),.s 1 a2],d]=>some (fun _=>d=.agg [.i a0,.i a1,.s 1 a2]/\Rw [tI] a2/\av [a2]<=1099511627776,[.k true])
 |_,_=>none
theorem aj:aT (ct F0):=by
 intro f ds pre res h hp;unfold ct at h;split at h<;>cases h
 exact wi hp;exact wq hp;exact v6 hp
abbrev B:cF:=tb aj
end LJob
namespace MJob
structure aP where
 kN:List aa->Int->Int
 mkN:aa->Int->aa
abbrev F0:aP:=⟨au,aU⟩
def ct (F:aP):CT:=fun f ds=>match f,ds with
 |163,[.agg [.v (.int Za m0),.v (.int Za m1),.s 1 m2],.one (.v (.int Za k))]=>some (fun _=>(∃ a2,m2=aU a2 k/\Rw [tI] a2/\ah a2<=1099511627776)/\0<=k/\au [m2] k<=1152921504606846976,[.j (F.kN [m2] k)])
 |_,_=>none
theorem aj:aT (ct F0):=by
 intro f ds pre res h hp;unfold ct at h;split at h<;>cases h
 exact qL hp
def mt (F:aP):MT:=fun f=>match f with
 | 157=>some fun ds=>match ds with
   |[.agg [.v (.int Za a0),.v (.int Za a1),.s 1 a2],.one (.v (.int Za k))]=>some (fun _=>Rw [tI] a2/\av [a2]<=1099511627776/\0<=k/\au [a2] k<=1152921504606846976,[.s 1 (F.mkN a2 k)],[.j (F.kN [a2] k)])
   |_=>none
 |_=>none
theorem dB:gY (mt F0):=by
 intro f mk h ds pre outs res hm hp;unfold mt at h;split at h
 ·cases h;dsimp only at hm;split at hm
  ·cases hm;exact qQ hp
  ·cases hm
 ·cases h
abbrev B:cF:={Φ:=aP,F0:=F0,ct:=ct,hc:=aj,mt:=mt,hm:=dB}
end MJob
theorem x5 {a0 a1:Int}{a2:aa}{a3 a4 left:Int}(hp:Rw [tI] a2/\0<=left/\left<=1048576):ap 25 [.agg [.i a0,.i a1,.s 1 a2,.i a3,.i a4],.j left] [.j (bN [a2] left)]:=by
 obtain⟨w0,h0,h1⟩:=hp;refine cb LJob.B Tryz.func25 ?_
 exact SR
theorem x6 {a0 a1:Int}{a2:aa}{a3 a4:Int}(hp:Rw [tI] a2/\av [a2]<=1048576):ap 38 [.agg [.i a0,.i a1,.s 1 a2,.i a3,.i a4]] [.agg [.i a0,.i a1,.s 1 a2,.i a3,.i a4]]:=by
 obtain⟨w0,hlim⟩:=hp;simp only[av,Zh]at hlim;refine cb LJob.B Tryz.func38 ?_
 exact rU
theorem xY {a0 a1:Int}{a2:aa}{a3 a4:Int}{d:DV}(hp:d=.agg [.i a0,.i a1,.s 1 a2,.i a3,.i a4]/\Rw [tI] a2/\av [a2]<=1099511627776):ap 52 [.agg [.i a0,.i a1,.s 1 a2,.i a3,.i a4],d] [.k true]:=by
 obtain⟨rfl,w0,hlim⟩:=hp;simp only[av,Zh]at hlim;refine cb LJob.B Tryz.func52 ?_
 exact rU
theorem ta {a0 a1:Int}{a2:aa}{a3 a4 k:Int}(hp:Rw [tI] a2/\av [a2]<=1099511627776/\0<=k/\au [a2] k<=1152921504606846976):eb 61 [.agg [.i a0,.i a1,.s 1 a2,.i a3,.i a4],.j k] [.s 1 (aU a2 k)] [.j (au [a2] k)]:=by
 obtain⟨w0,hlim,hk0,hkb⟩:=hp;simp only[av,Zh]at hlim;have p0:au [a2] k<=au [a2] k/\0<=au [a2] k:=bz (b:=[]) hk0;refine mb MJob.B [(2,2)] Tryz.func61 ?_
 exact JA
theorem s9 {m0 m1:Int}{m2:aa}{m3 m4 k:Int}(hp:(∃ a2,m2=aU a2 k/\Rw [tI] a2/\ah a2<=1099511627776)/\0<=k/\au [m2] k<=1152921504606846976):ap 70 [.agg [.i m0,.i m1,.s 1 m2,.i m3,.i m4],.j k] [.j (au [m2] k)]:=by
 obtain⟨e0,hk0,hkb⟩:=hp;have p0:au [m2] k<=au [m2] k/\0<=au [m2] k:=bz (b:=[]) hk0;refine cb MJob.B Tryz.func70 ?_
 exact Jz
end Go.V