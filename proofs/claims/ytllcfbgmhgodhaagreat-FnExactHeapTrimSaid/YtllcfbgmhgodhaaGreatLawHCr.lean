/- Contracts. -/
import Derived.Test.YtllcfbgmhgodhaaGreatLawHAr
import Derived.Test.YtllcfbgmhgodhaaGreatLawHEr
set_option linter.all false
namespace Go.V
open Go Go.Proofs
set_option maxRecDepth 1000000
set_option maxHeartbeats 8000000
namespace LCache
structure aQ where
 szN:List aa->Int->Int
abbrev F0 :aQ:=⟨bK⟩
def ct (F:aQ):CT:=fun f ds=>match f,ds with
 |114,[.one (.s 1 es),.one (.v (.int .i64 left))]=>some (fun _=>Rw [.sl [tI]] es/\0<=left/\left<=1048576,[.j (F.szN [es] left)])
 |143,[.one (.s 1 es)]=>some (fun _=>Rw [.sl [tI]] es/\ah es<=1048576,[.one (.s 1 es)])
 |172,[.one (.s 1 es),d]=>some (fun _=>d=.one (.s 1 es)/\Rw [.sl [tI]] es/\ah es<=1099511627776,[.k true])
 |_,_=>none
theorem ai :aS (ct F0):=by
 intro f ds pre res h hp;unfold ct at h;split at h<;>cases h
 exact gK hp;exact gL hp;exact gJ hp
abbrev B :cy:=tb ai
end LCache
theorem tY {a0:aa}{left:Int}(hp:Rw [.sl [tI]] a0/\0<=left/\left<=1048576):au 112 [.agg [.s 1 a0],.j left] [.j (bK [a0] left)]:=by
 obtain⟨w0,h0,h1⟩:=hp;refine cb LCache.B Tryz.func112 ?_
 exact SY
theorem t9 {a0:aa}(hp:Rw [.sl [tI]] a0/\aw [a0]<=1048576):au 141 [.agg [.s 1 a0]] [.agg [.s 1 a0]]:=by
 obtain⟨w0,hlim⟩:=hp;simp only[aw,Nat.add_zero]at hlim;refine cb LCache.B Tryz.func141 ?_
 exact sK
theorem tM {a0:aa}{d:DV}(hp:d=.agg [.s 1 a0]/\Rw [.sl [tI]] a0/\aw [a0]<=1099511627776):au 170 [.agg [.s 1 a0],d] [.k true]:=by
 obtain⟨rfl,w0,hlim⟩:=hp;simp only[aw,Nat.add_zero]at hlim;refine cb LCache.B Tryz.func170 ?_
 exact sK
namespace LCacheS
structure aQ where
 szN:List aa->Int->Int
abbrev F0 :aQ:=⟨bK⟩
def ct (F:aQ):CT:=fun f ds=>match f,ds with
 |112,[.agg [.s 1 a0],.one (.v (.int .i64 left))]=>some (fun _=>Rw [.sl [tI]] a0/\0<=left/\left<=1048576,[.j (F.szN [a0] left)])
 |141,[.agg [.s 1 a0]]=>some (fun _=>Rw [.sl [tI]] a0/\aw [a0]<=1048576,[.agg [.s 1 a0]])
 |170,[.agg [.s 1 a0],d]=>some (fun _=>d=.agg [.s 1 a0]/\Rw [.sl [tI]] a0/\aw [a0]<=1099511627776,[.k true])
 |_,_=>none
theorem ai :aS (ct F0):=by
 intro f ds pre res h hp;unfold ct at h;split at h<;>cases h
 exact tY hp;exact t9 hp;exact tM hp
abbrev B :cy:=tb ai
end LCacheS
namespace MCacheS
structure aQ where
 kN:List aa->Int->Int
 mkN:aa->Int->aa
abbrev F0 :aQ:=⟨ao,am⟩
def ct (F:aQ):CT:=fun f ds=>match f,ds with
 |183,[.one (.s 1 ms),.one (.v (.int .i64 k))]=>some (fun _=>∃ es,ms=am es k/\Rw [.sl [tI]] es/\ah es<=1099511627776/\0<=k/\ao [ms] k<=1152921504606846976,[.j (F.kN [ms] k)])
 |_,_=>none
theorem ai :aS (ct F0):=by
 intro f ds pre res h hp;unfold ct at h;split at h<;>cases h
 exact fm hp
def mt (F:aQ):MT:=fun f=>match f with
 | 177=>some fun ds=>match ds with
   |[.one (.s 1 es),.one (.v (.int .i64 k))]=>some (fun _=>Rw [.sl [tI]] es/\ah es<=1099511627776/\0<=k/\ao [es] k<=1152921504606846976,[.s 1 (F.mkN es k)],[.j (F.kN [es] k)])
   |_=>none
 |_=>none
theorem cW :gh (mt F0):=by
 intro f mk h ds pre outs res hm hp;unfold mt at h;split at h
 ·cases h;dsimp only at hm;split at hm
  ·cases hm;exact fo hp
  ·cases hm
 ·cases h
abbrev B :cy:={Φ:=aQ,F0:=F0,ct:=ct,hc:=ai,mt:=mt,hm:=cW}
end MCacheS
theorem rN {es:aa}{left:Int}(hp:Rw [.sl [.sl [tI]]] es/\0<=left/\left<=1048576):au 34 [.one (.s 1 es),.j left] [.j (bK [es] left)]:=by
 obtain⟨hw,h0,h1⟩:=hp;have hwf:Wf [.s 1 []] es:=hw.wf;have hm:=hw.1;unfold maxLen at hm;have hs:bF .sub .i64 left es.length=left-es.length:=cR (by omega);have hcE:ah es=es.length+bD es:=rfl;have hn:bK [es] left=if left<ah es then-1 else left-ah es:=by unfold bK;rw[dd]
 refine cb LCacheS.B Tryz.func34 ?_
 intro O r F hO hr hF;cbv
 apply be<;>intro hb<;>cbv
 ·repeat' first|apply And.intro|(apply be<;>intro hb<;>cbv)
  all_goals exact Oo
 have hb0:0<=left-es.length:=by
  (subst hO hr hF;(try simp only[nc]at*);(try simp only[aj,SS,sa,az]at*))
  rw[hs]at hb;exact hb
 clear hb;refine⟨[0,1,5],[],Int×Int,fun s=>match s with|(i,l)=>[.reg 5 (.j i),.reg 1 (.j l)],fun s=>0<=s.1/\s.1.toNat<=es.length/\0<=s.2/\s.2=left-es.length-bD (es.take s.1.toNat),fun s=>es.length-s.1.toNat,⟨(0,O.ar .sub .i64 left (O.zi (O.ln es))),?_,?_⟩,?_⟩
 ·(subst hO hr hF;(try simp only[nc]at*);(try simp only[aj,SS,sa,az]at*))
  rw[hs];exact⟨by omega,Nat.zero_le _,hb0,by simp[bD]⟩
 ·cbv
 ·rintro⟨i,l⟩ hi;replace hi:0<=i/\i.toNat<=es.length/\0<=l/\l=left-es.length-bD (es.take i.toNat):=hi;obtain⟨g0,g1,g2,g3⟩:=hi;cbv
  repeat' first|apply And.intro|(apply be<;>intro hb<;>cbv)|(refine ab (O.ar .add .i64 i 1,F.szN [O.gs es i 0] l) ?_ ?_ ?_;focus (cbv;done))
  all_goals(subst hO hr hF;(try simp only[nc]at*);(try simp only[aj,SS,sa,az]at*))
  all_goals have hle:=bH (es:=es) (n:=i.toNat)
  all_goals have hsz:=gy (a:=[aR es i 0]) (left:=l)
  all_goals((have hsz2:0<=bK [aR es i 0] l->bK [aR es i 0] l=l-aw [aR es i 0]:=oH);(try have hlt:i<es.length:=by assumption);(try have he:es.getD i.toNat []=[.s 1 (aR es i 0)]:=(av hwf g0 hlt).symm);(try rw[dj (n:=es.length) g0 hlt (by omega)]);(try have hr0:Rw [.sl [tI]] (aR es i 0):=Rw.sub (fs:=[.sl [.sl [tI]]]) hw (by omega) rfl))
  all_goals exact Ol
theorem rV {es:aa}(hp:Rw [.sl [.sl [tI]]] es/\ah es<=1048576):au 46 [.one (.s 1 es)] [.one (.s 1 es)]:=by
 obtain⟨hw,hlim⟩:=hp;have hwf:Wf [.s 1 []] es:=hw.wf;have hlen:=cV hlim;refine cb LCacheS.B Tryz.func46 ?_
 intro O r F hO hr hF;cbv
 have h0z:cd es [.s 1 []] 0=O.rep (O.zi (O.ln es)) [.s 1 []]:=by
  subst hO;rw[cO];rfl
 refine⟨?_,?_,[0,3,4],[3],Int×aa,fun s=>[.reg 4 (.j s.1),.leaf 3 0 ⟨0,0,none,.own (.s 1 s.2)⟩],fun s=>0<=s.1/\s.1.toNat<=es.length/\s.2=cd es [.s 1 []] s.1.toNat,fun s=>es.length-s.1.toNat,⟨(0,O.rep (O.zi (O.ln es)) [.s 1 []]),?_,?_⟩,?_⟩
 ·subst hO;exact ke (b:=24) (show es.length*_<=_ by omega) (show es.length<=_ by omega)
 ·subst hO;exact⟨rfl,rfl⟩
 ·exact⟨by omega,Nat.zero_le _,h0z.symm⟩
 ·cbv
 ·rintro⟨i,m⟩ hi;replace hi:0<=i/\i.toNat<=es.length/\m=cd es [.s 1 []] i.toNat:=hi;obtain⟨g0,g1,hm⟩:=hi;cbv
  repeat' first|apply And.intro|(apply be<;>intro hb<;>cbv)|(refine ab (O.ar .add .i64 i 1,O.up (.s 1 m) [(O.ad 0 i,0)] [.s 1 (O.gs es i 0)]) ?_ ?_ ?_;focus (cbv;done))
  all_goals(subst hO hr hF;(try simp only[nc]at*);(try simp only[aj,SS,sa,az]at*);(try simp only[jK,List.length_replicate,Int.toNat_natCast]at*);(try have hlt:i<es.length:=by assumption);(try have he:es.getD i.toNat []=[.s 1 (aR es i 0)]:=(av hwf g0 hlt).symm);(try rw[dj (n:=es.length) g0 hlt (by omega)]);(try have hr0:Rw [.sl [tI]] (aR es i 0):=Rw.sub (fs:=[.sl [.sl [tI]]]) hw (by omega) rfl))
  all_goals exact Oj
theorem rx {es:aa}{d:DV}(hp:d=.one (.s 1 es)/\Rw [.sl [.sl [tI]]] es/\ah es<=1099511627776):au 58 [.one (.s 1 es),d] [.k true]:=by
 obtain⟨rfl,hw,hlim⟩:=hp;have hwf:Wf [.s 1 []] es:=hw.wf;have hlen:=cV hlim;refine cb LCacheS.B Tryz.func58 ?_
 intro O r F hO hr hF;cbv
 apply be<;>intro hb<;>cbv
 ·(subst hO hr hF;(try simp only[nc]at*);(try simp only[aj,SS,sa,az]at*));exact absurd rfl hb
 ·clear hb;refine⟨[0,1,5],[],Int,fun i=>[.reg 5 (.j i)],fun i=>0<=i/\i.toNat<=es.length,fun i=>es.length-i.toNat,⟨0,?_,?_⟩,?_⟩
  ·exact⟨by omega,Nat.zero_le _⟩
  ·cbv
  ·rintro i hi;replace hi:0<=i/\i.toNat<=es.length:=hi;obtain⟨g0,g1⟩:=hi;cbv
   repeat' first|apply And.intro|(apply be<;>intro hb<;>cbv)|(refine ab (O.ar .add .i64 i 1) ?_ ?_ ?_;focus (cbv;done))
   all_goals(subst hO hr hF;(try simp only[nc]at*);(try simp only[aj,SS,sa,az]at*);(try have hlt:i<es.length:=by assumption);(try have he:es.getD i.toNat []=[.s 1 (aR es i 0)]:=(av hwf g0 hlt).symm);(try rw[dj (n:=es.length) g0 hlt (by omega)]);(try have hr0:Rw [.sl [tI]] (aR es i 0):=Rw.sub (fs:=[.sl [.sl [tI]]]) hw (by omega) rfl))
   all_goals exact Om
theorem nu {es:aa}{k:Int}(hp:Rw [.sl [.sl [tI]]] es/\ah es<=1099511627776/\0<=k/\ao [es] k<=1152921504606846976):eg 67 [.one (.s 1 es),.j k] [.s 1 (am es k)] [.j (ao [es] k)]:=by
 obtain⟨hw,hlim,hk0,hkb⟩:=hp;have hwf:Wf [.s 1 []] es:=hw.wf;have hlen:=cV hlim;refine mb MCacheS.B [(0,0)] Tryz.func67 ?_
 intro O r os F hO hr hos hF;cbv
 refine⟨[0,1,5],[0],Int×Int×aa,fun s=>match s with|(i,k',cur)=>[.reg 5 (.j i),.reg 1 (.j k'),.leaf 0 0 ⟨0,0,some 0,.own (.s 1 cur)⟩],fun s=>0<=s.1/\s.1.toNat<=es.length/\s.2.1=dL es k s.1.toNat/\s.2.2=dW es k s.1.toNat,fun s=>es.length-s.1.toNat,⟨(0,k,es),?_,?_⟩,?_⟩
 ·exact⟨by omega,Nat.zero_le _,bJ.symm,dh.symm⟩
 ·cbv
 ·rintro⟨i,k',cur⟩ hi;replace hi:0<=i/\i.toNat<=es.length/\k'=dL es k i.toNat/\cur=dW es k i.toNat:=hi;obtain⟨g0,g1,hk',hc⟩:=hi;cbv
  repeat' first|apply And.intro|(apply be<;>intro hb<;>cbv)|(refine ab (O.ar .add .i64 i 1,F.kN [O.ps (.s 1 (cur)) [(O.ad 0 i,0)]] (k'),O.up (.s 1 (cur)) [(O.ad 0 i,0)] [.s 1 (F.mkN (O.ps (.s 1 (cur)) [(O.ad 0 i,0)]) (k'))]) ?_ ?_ ?_;focus (cbv;done))
  all_goals((try subst hos);subst hO hr hF;(try simp only[nc]at*);(try simp only[aj,SS,sa,az]at*);(try have hlt:i<es.length:=by assumption);(try have he:es.getD i.toNat []=[.s 1 (aR es i 0)]:=(av hwf g0 hlt).symm);(try have hcg:cur.getD i.toNat []=[.s 1 (aR es i 0)]:=by rw[hc,de g1];exact he);(try rw[dj (n:=es.length) g0 hlt (by omega)]);(try have hlt':i.toNat<es.length:=by omega);(try have hr0:Rw [.sl [tI]] (aR es i 0):=Rw.sub (fs:=[.sl [.sl [tI]]]) hw (by omega) rfl))
  all_goals exact Vi
theorem na {ms:aa}{k:Int}(hp:∃ es,ms=am es k/\Rw [.sl [.sl [tI]]] es/\ah es<=1099511627776/\0<=k/\ao [ms] k<=1152921504606846976):au 76 [.one (.s 1 ms),.j k] [.j (ao [ms] k)]:=by
 obtain⟨es,hms,hw,hlim,hk0,hkb⟩:=hp;have hlen:=cV hlim;have hml:ms.length=es.length:=by rw[hms];exact bZ
 have hkk:ao [ms] k=ao [es] k:=by rw[hms];exact j9
 have hwm:Wf [.s 1 []] ms:=by rw[hms];exact cN hw
 have hwf:Wf [.s 1 []] es:=hw.wf;have hat:∀ n,n<es.length->ms.getD n []=(eA (es.getD n []) (dL es k n)).1:=fun n hn=>by rw[hms];exact gd hn
 refine cb MCacheS.B Tryz.func76 ?_
 intro O r F hO hr hF;cbv
 refine⟨[0,1,5],[],Int×Int,fun s=>match s with|(i,k')=>[.reg 5 (.j i),.reg 1 (.j k')],fun s=>0<=s.1/\s.1.toNat<=es.length/\s.2=dL es k s.1.toNat,fun s=>es.length-s.1.toNat,⟨(0,k),?_,?_⟩,?_⟩
 ·exact⟨by omega,Nat.zero_le _,bJ.symm⟩
 ·cbv
 ·rintro⟨i,k'⟩ hi;replace hi:0<=i/\i.toNat<=es.length/\k'=dL es k i.toNat:=hi;obtain⟨g0,g1,hk'⟩:=hi;cbv
  repeat' first|apply And.intro|(apply be<;>intro hb<;>cbv)|(refine ab (O.ar .add .i64 i 1,F.kN [O.gs ms i 0] (k')) ?_ ?_ ?_;focus (cbv;done))
  all_goals(subst hO hr hF;(try simp only[nc]at*);(try simp only[aj,SS,sa,az]at*);(try have hltm:i<ms.length:=by assumption);(try have hlt:i<es.length:=by omega);(try have he:es.getD i.toNat []=[.s 1 (aR es i 0)]:=(av hwf g0 hlt).symm);(try rw[dj (n:=es.length) g0 hlt (by omega)]);(try have hlt':i.toNat<es.length:=by omega);(try have hr0:Rw [.sl [tI]] (aR es i 0):=Rw.sub (fs:=[.sl [.sl [tI]]]) hw (by omega) rfl);(try have hct:=cB (es:=es) (n:=i.toNat) (by omega);rw[he]at hct;simp only[cI,eC,Nat.add_zero,Nat.zero_add]at hct);(try have hks:=cP (es:=es) (k:=k) hlt';rw[he]at hks;simp only[eA,eQ]at hks);(try have hem:([.s 1 (aR ms i 0)]:aP)=_:=(av hwm g0 hltm).trans (hat i.toNat hlt');rw[he]at hem;simp only[eA,eQ,List.cons.injEq,L.v.injEq,Value.int.injEq,Value.bool.injEq,L.s.injEq,true_and,and_true]at hem))
  all_goals exact Vj
namespace LPostSS
structure aQ where
 szN:List aa->Int->Int
abbrev F0 :aQ:=⟨bK⟩
def ct (F:aQ):CT:=fun f ds=>match f,ds with
 |231,[.one (.s 2 es),.one (.v (.int .i64 left))]=>some (fun _=>Rw [tI,tI] es/\0<=left/\left<=1048576,[.j (F.szN [es] left)])
 |253,[.one (.s 2 es)]=>some (fun _=>Rw [tI,tI] es/\ah es<=1048576,[.one (.s 2 es)])
 |274,[.one (.s 2 es),d]=>some (fun _=>d=.one (.s 2 es)/\Rw [tI,tI] es/\ah es<=1099511627776,[.k true])
 |_,_=>none
theorem ai :aS (ct F0):=by
 intro f ds pre res h hp;unfold ct at h;split at h<;>cases h
 exact tZ hp;exact ue hp;exact tP hp
abbrev B :cy:=tb ai
end LPostSS
namespace MPostSS
structure aQ where
 kN:List aa->Int->Int
 mkN:aa->Int->aa
abbrev F0 :aQ:=⟨ao,am⟩
def ct (F:aQ):CT:=fun f ds=>match f,ds with
 |281,[.one (.s 2 ms),.one (.v (.int .i64 k))]=>some (fun _=>∃ es,ms=am es k/\Rw [tI,tI] es/\ah es<=1099511627776/\0<=k/\ao [ms] k<=1152921504606846976,[.j (F.kN [ms] k)])
 |_,_=>none
theorem ai :aS (ct F0):=by
 intro f ds pre res h hp;unfold ct at h;split at h<;>cases h
 exact o8 hp
def mt (F:aQ):MT:=fun f=>match f with
 | 278=>some fun ds=>match ds with
   |[.one (.s 2 es),.one (.v (.int .i64 k))]=>some (fun _=>Rw [tI,tI] es/\ah es<=1099511627776/\0<=k/\ao [es] k<=1152921504606846976,[.s 2 (F.mkN es k)],[.j (F.kN [es] k)])
   |_=>none
 |_=>none
theorem cW :gh (mt F0):=by
 intro f mk h ds pre outs res hm hp;unfold mt at h;split at h
 ·cases h;dsimp only at hm;split at hm
  ·cases hm;exact pd hp
  ·cases hm
 ·cases h
abbrev B :cy:={Φ:=aQ,F0:=F0,ct:=ct,hc:=ai,mt:=mt,hm:=cW}
end MPostSS
theorem rS {es:aa}{left:Int}(hp:Rw [.sl [tI,tI]] es/\0<=left/\left<=1048576):au 113 [.one (.s 1 es),.j left] [.j (bK [es] left)]:=by
 obtain⟨hw,h0,h1⟩:=hp;have hwf:Wf [.s 2 []] es:=hw.wf;have hm:=hw.1;unfold maxLen at hm;have hs:bF .sub .i64 left es.length=left-es.length:=cR (by omega);have hcE:ah es=es.length+bD es:=rfl;have hn:bK [es] left=if left<ah es then-1 else left-ah es:=by unfold bK;rw[dd]
 refine cb LPostSS.B Tryz.func113 ?_
 intro O r F hO hr hF;cbv
 apply be<;>intro hb<;>cbv
 ·repeat' first|apply And.intro|(apply be<;>intro hb<;>cbv)
  all_goals exact Oo
 have hb0:0<=left-es.length:=by
  (subst hO hr hF;(try simp only[nc]at*);(try simp only[aj,SS,sa,az]at*))
  rw[hs]at hb;exact hb
 clear hb;refine⟨[0,1,5],[],Int×Int,fun s=>match s with|(i,l)=>[.reg 5 (.j i),.reg 1 (.j l)],fun s=>0<=s.1/\s.1.toNat<=es.length/\0<=s.2/\s.2=left-es.length-bD (es.take s.1.toNat),fun s=>es.length-s.1.toNat,⟨(0,O.ar .sub .i64 left (O.zi (O.ln es))),?_,?_⟩,?_⟩
 ·(subst hO hr hF;(try simp only[nc]at*);(try simp only[aj,SS,sa,az]at*))
  rw[hs];exact⟨by omega,Nat.zero_le _,hb0,by simp[bD]⟩
 ·cbv
 ·rintro⟨i,l⟩ hi;replace hi:0<=i/\i.toNat<=es.length/\0<=l/\l=left-es.length-bD (es.take i.toNat):=hi;obtain⟨g0,g1,g2,g3⟩:=hi;cbv
  repeat' first|apply And.intro|(apply be<;>intro hb<;>cbv)|(refine ab (O.ar .add .i64 i 1,F.szN [O.gs es i 0] l) ?_ ?_ ?_;focus (cbv;done))
  all_goals(subst hO hr hF;(try simp only[nc]at*);(try simp only[aj,SS,sa,az]at*))
  all_goals have hle:=bH (es:=es) (n:=i.toNat)
  all_goals have hsz:=gy (a:=[aR es i 0]) (left:=l)
  all_goals((have hsz2:0<=bK [aR es i 0] l->bK [aR es i 0] l=l-aw [aR es i 0]:=oH);(try have hlt:i<es.length:=by assumption);(try have he:es.getD i.toNat []=[.s 2 (aR es i 0)]:=(av hwf g0 hlt).symm);(try rw[dj (n:=es.length) g0 hlt (by omega)]);(try have hr0:Rw [tI,tI] (aR es i 0):=Rw.sub (fs:=[.sl [tI,tI]]) hw (by omega) rfl))
  all_goals exact Ol
theorem sc {es:aa}(hp:Rw [.sl [tI,tI]] es/\ah es<=1048576):au 142 [.one (.s 1 es)] [.one (.s 1 es)]:=by
 obtain⟨hw,hlim⟩:=hp;have hwf:Wf [.s 2 []] es:=hw.wf;have hlen:=cV hlim;refine cb LPostSS.B Tryz.func142 ?_
 intro O r F hO hr hF;cbv
 have h0z:cd es [.s 2 []] 0=O.rep (O.zi (O.ln es)) [.s 2 []]:=by
  subst hO;rw[cO];rfl
 refine⟨?_,?_,[0,3,4],[3],Int×aa,fun s=>[.reg 4 (.j s.1),.leaf 3 0 ⟨0,0,none,.own (.s 1 s.2)⟩],fun s=>0<=s.1/\s.1.toNat<=es.length/\s.2=cd es [.s 2 []] s.1.toNat,fun s=>es.length-s.1.toNat,⟨(0,O.rep (O.zi (O.ln es)) [.s 2 []]),?_,?_⟩,?_⟩
 ·subst hO;exact ke (b:=24) (show es.length*_<=_ by omega) (show es.length<=_ by omega)
 ·subst hO;exact⟨rfl,rfl⟩
 ·exact⟨by omega,Nat.zero_le _,h0z.symm⟩
 ·cbv
 ·rintro⟨i,m⟩ hi;replace hi:0<=i/\i.toNat<=es.length/\m=cd es [.s 2 []] i.toNat:=hi;obtain⟨g0,g1,hm⟩:=hi;cbv
  repeat' first|apply And.intro|(apply be<;>intro hb<;>cbv)|(refine ab (O.ar .add .i64 i 1,O.up (.s 1 m) [(O.ad 0 i,0)] [.s 2 (O.gs es i 0)]) ?_ ?_ ?_;focus (cbv;done))
  all_goals(subst hO hr hF;(try simp only[nc]at*);(try simp only[aj,SS,sa,az]at*);(try simp only[jK,List.length_replicate,Int.toNat_natCast]at*);(try have hlt:i<es.length:=by assumption);(try have he:es.getD i.toNat []=[.s 2 (aR es i 0)]:=(av hwf g0 hlt).symm);(try rw[dj (n:=es.length) g0 hlt (by omega)]);(try have hr0:Rw [tI,tI] (aR es i 0):=Rw.sub (fs:=[.sl [tI,tI]]) hw (by omega) rfl))
  all_goals exact Oj
theorem rC {es:aa}{d:DV}(hp:d=.one (.s 1 es)/\Rw [.sl [tI,tI]] es/\ah es<=1099511627776):au 171 [.one (.s 1 es),d] [.k true]:=by
 obtain⟨rfl,hw,hlim⟩:=hp;have hwf:Wf [.s 2 []] es:=hw.wf;have hlen:=cV hlim;refine cb LPostSS.B Tryz.func171 ?_
 intro O r F hO hr hF;cbv
 apply be<;>intro hb<;>cbv
 ·(subst hO hr hF;(try simp only[nc]at*);(try simp only[aj,SS,sa,az]at*));exact absurd rfl hb
 ·clear hb;refine⟨[0,1,5],[],Int,fun i=>[.reg 5 (.j i)],fun i=>0<=i/\i.toNat<=es.length,fun i=>es.length-i.toNat,⟨0,?_,?_⟩,?_⟩
  ·exact⟨by omega,Nat.zero_le _⟩
  ·cbv
  ·rintro i hi;replace hi:0<=i/\i.toNat<=es.length:=hi;obtain⟨g0,g1⟩:=hi;cbv
   repeat' first|apply And.intro|(apply be<;>intro hb<;>cbv)|(refine ab (O.ar .add .i64 i 1) ?_ ?_ ?_;focus (cbv;done))
   all_goals(subst hO hr hF;(try simp only[nc]at*);(try simp only[aj,SS,sa,az]at*);(try have hlt:i<es.length:=by assumption);(try have he:es.getD i.toNat []=[.s 2 (aR es i 0)]:=(av hwf g0 hlt).symm);(try rw[dj (n:=es.length) g0 hlt (by omega)]);(try have hr0:Rw [tI,tI] (aR es i 0):=Rw.sub (fs:=[.sl [tI,tI]]) hw (by omega) rfl))
   all_goals exact Om
theorem nE {es:aa}{k:Int}(hp:Rw [.sl [tI,tI]] es/\ah es<=1099511627776/\0<=k/\ao [es] k<=1152921504606846976):eg 178 [.one (.s 1 es),.j k] [.s 1 (am es k)] [.j (ao [es] k)]:=by
 obtain⟨hw,hlim,hk0,hkb⟩:=hp;have hwf:Wf [.s 2 []] es:=hw.wf;have hlen:=cV hlim;refine mb MPostSS.B [(0,0)] Tryz.func178 ?_
 intro O r os F hO hr hos hF;cbv
 refine⟨[0,1,5],[0],Int×Int×aa,fun s=>match s with|(i,k',cur)=>[.reg 5 (.j i),.reg 1 (.j k'),.leaf 0 0 ⟨0,0,some 0,.own (.s 1 cur)⟩],fun s=>0<=s.1/\s.1.toNat<=es.length/\s.2.1=dL es k s.1.toNat/\s.2.2=dW es k s.1.toNat,fun s=>es.length-s.1.toNat,⟨(0,k,es),?_,?_⟩,?_⟩
 ·exact⟨by omega,Nat.zero_le _,bJ.symm,dh.symm⟩
 ·cbv
 ·rintro⟨i,k',cur⟩ hi;replace hi:0<=i/\i.toNat<=es.length/\k'=dL es k i.toNat/\cur=dW es k i.toNat:=hi;obtain⟨g0,g1,hk',hc⟩:=hi;cbv
  repeat' first|apply And.intro|(apply be<;>intro hb<;>cbv)|(refine ab (O.ar .add .i64 i 1,F.kN [O.ps (.s 1 (cur)) [(O.ad 0 i,0)]] (k'),O.up (.s 1 (cur)) [(O.ad 0 i,0)] [.s 2 (F.mkN (O.ps (.s 1 (cur)) [(O.ad 0 i,0)]) (k'))]) ?_ ?_ ?_;focus (cbv;done))
  all_goals((try subst hos);subst hO hr hF;(try simp only[nc]at*);(try simp only[aj,SS,sa,az]at*);(try have hlt:i<es.length:=by assumption);(try have he:es.getD i.toNat []=[.s 2 (aR es i 0)]:=(av hwf g0 hlt).symm);(try have hcg:cur.getD i.toNat []=[.s 2 (aR es i 0)]:=by rw[hc,de g1];exact he);(try rw[dj (n:=es.length) g0 hlt (by omega)]);(try have hlt':i.toNat<es.length:=by omega);(try have hr0:Rw [tI,tI] (aR es i 0):=Rw.sub (fs:=[.sl [tI,tI]]) hw (by omega) rfl))
  all_goals exact Vi
theorem nk {ms:aa}{k:Int}(hp:∃ es,ms=am es k/\Rw [.sl [tI,tI]] es/\ah es<=1099511627776/\0<=k/\ao [ms] k<=1152921504606846976):au 184 [.one (.s 1 ms),.j k] [.j (ao [ms] k)]:=by
 obtain⟨es,hms,hw,hlim,hk0,hkb⟩:=hp;have hlen:=cV hlim;have hml:ms.length=es.length:=by rw[hms];exact bZ
 have hkk:ao [ms] k=ao [es] k:=by rw[hms];exact j9
 have hwm:Wf [.s 2 []] ms:=by rw[hms];exact cN hw
 have hwf:Wf [.s 2 []] es:=hw.wf;have hat:∀ n,n<es.length->ms.getD n []=(eA (es.getD n []) (dL es k n)).1:=fun n hn=>by rw[hms];exact gd hn
 refine cb MPostSS.B Tryz.func184 ?_
 intro O r F hO hr hF;cbv
 refine⟨[0,1,5],[],Int×Int,fun s=>match s with|(i,k')=>[.reg 5 (.j i),.reg 1 (.j k')],fun s=>0<=s.1/\s.1.toNat<=es.length/\s.2=dL es k s.1.toNat,fun s=>es.length-s.1.toNat,⟨(0,k),?_,?_⟩,?_⟩
 ·exact⟨by omega,Nat.zero_le _,bJ.symm⟩
 ·cbv
 ·rintro⟨i,k'⟩ hi;replace hi:0<=i/\i.toNat<=es.length/\k'=dL es k i.toNat:=hi;obtain⟨g0,g1,hk'⟩:=hi;cbv
  repeat' first|apply And.intro|(apply be<;>intro hb<;>cbv)|(refine ab (O.ar .add .i64 i 1,F.kN [O.gs ms i 0] (k')) ?_ ?_ ?_;focus (cbv;done))
  all_goals(subst hO hr hF;(try simp only[nc]at*);(try simp only[aj,SS,sa,az]at*);(try have hltm:i<ms.length:=by assumption);(try have hlt:i<es.length:=by omega);(try have he:es.getD i.toNat []=[.s 2 (aR es i 0)]:=(av hwf g0 hlt).symm);(try rw[dj (n:=es.length) g0 hlt (by omega)]);(try have hlt':i.toNat<es.length:=by omega);(try have hr0:Rw [tI,tI] (aR es i 0):=Rw.sub (fs:=[.sl [tI,tI]]) hw (by omega) rfl);(try have hct:=cB (es:=es) (n:=i.toNat) (by omega);rw[he]at hct;simp only[cI,eC,Nat.add_zero,Nat.zero_add]at hct);(try have hks:=cP (es:=es) (k:=k) hlt';rw[he]at hks;simp only[eA,eQ]at hks);(try have hem:([.s 2 (aR ms i 0)]:aP)=_:=(av hwm g0 hltm).trans (hat i.toNat hlt');rw[he]at hem;simp only[eA,eQ,List.cons.injEq,L.v.injEq,Value.int.injEq,Value.bool.injEq,L.s.injEq,true_and,and_true]at hem))
  all_goals exact Vj
namespace LMail
structure aQ where
 szN:List aa->Int->Int
abbrev F0 :aQ:=⟨bK⟩
def ct (F:aQ):CT:=fun f ds=>match f,ds with
 |113,[.one (.s 1 es),.one (.v (.int .i64 left))]=>some (fun _=>Rw [.sl [tI,tI]] es/\0<=left/\left<=1048576,[.j (F.szN [es] left)])
 |142,[.one (.s 1 es)]=>some (fun _=>Rw [.sl [tI,tI]] es/\ah es<=1048576,[.one (.s 1 es)])
 |171,[.one (.s 1 es),d]=>some (fun _=>d=.one (.s 1 es)/\Rw [.sl [tI,tI]] es/\ah es<=1099511627776,[.k true])
 |114,[.one (.s 1 es),.one (.v (.int .i64 left))]=>some (fun _=>Rw [.sl [tI]] es/\0<=left/\left<=1048576,[.j (F.szN [es] left)])
 |143,[.one (.s 1 es)]=>some (fun _=>Rw [.sl [tI]] es/\ah es<=1048576,[.one (.s 1 es)])
 |172,[.one (.s 1 es),d]=>some (fun _=>d=.one (.s 1 es)/\Rw [.sl [tI]] es/\ah es<=1099511627776,[.k true])
 |_,_=>none
theorem ai :aS (ct F0):=by
 intro f ds pre res h hp;unfold ct at h;split at h<;>cases h
 exact rS hp;exact sc hp;exact rC hp;exact gK hp;exact gL hp;exact gJ hp
abbrev B :cy:=tb ai
end LMail
namespace MMail
structure aQ where
 kN:List aa->Int->Int
 mkN:aa->Int->aa
abbrev F0 :aQ:=⟨ao,am⟩
def ct (F:aQ):CT:=fun f ds=>match f,ds with
 |184,[.one (.s 1 ms),.one (.v (.int .i64 k))]=>some (fun _=>∃ es,ms=am es k/\Rw [.sl [tI,tI]] es/\ah es<=1099511627776/\0<=k/\ao [ms] k<=1152921504606846976,[.j (F.kN [ms] k)])
 |183,[.one (.s 1 ms),.one (.v (.int .i64 k))]=>some (fun _=>∃ es,ms=am es k/\Rw [.sl [tI]] es/\ah es<=1099511627776/\0<=k/\ao [ms] k<=1152921504606846976,[.j (F.kN [ms] k)])
 |_,_=>none
theorem ai :aS (ct F0):=by
 intro f ds pre res h hp;unfold ct at h;split at h<;>cases h
 exact nk hp;exact fm hp
def mt (F:aQ):MT:=fun f=>match f with
 | 178=>some fun ds=>match ds with
   |[.one (.s 1 es),.one (.v (.int .i64 k))]=>some (fun _=>Rw [.sl [tI,tI]] es/\ah es<=1099511627776/\0<=k/\ao [es] k<=1152921504606846976,[.s 1 (F.mkN es k)],[.j (F.kN [es] k)])
   |_=>none
 | 177=>some fun ds=>match ds with
   |[.one (.s 1 es),.one (.v (.int .i64 k))]=>some (fun _=>Rw [.sl [tI]] es/\ah es<=1099511627776/\0<=k/\ao [es] k<=1152921504606846976,[.s 1 (F.mkN es k)],[.j (F.kN [es] k)])
   |_=>none
 |_=>none
theorem cW :gh (mt F0):=by
 intro f mk h ds pre outs res hm hp;unfold mt at h;split at h
 ·cases h;dsimp only at hm;split at hm
  ·cases hm;exact nE hp
  ·cases hm
 ·cases h;dsimp only at hm;split at hm
  ·cases hm;exact fo hp
  ·cases hm
 ·cases h
abbrev B :cy:={Φ:=aQ,F0:=F0,ct:=ct,hc:=ai,mt:=mt,hm:=cW}
end MMail
theorem wF {a0 a1:aa}{left:Int}(hp:Rw [.sl [tI,tI]] a0/\Rw [.sl [tI]] a1/\0<=left/\left<=1048576):au 35 [.agg [.s 1 a0,.s 1 a1],.j left] [.j (bK [a0,a1] left)]:=by
 obtain⟨w0,w1,h0,h1⟩:=hp;refine cb LMail.B Tryz.func35 ?_
 intro O r F hO hr hF;cbv
 repeat' first|apply And.intro|(apply be<;>intro hb<;>cbv)
 all_goals(subst hO hr hF;(try simp only[nc]at*);(try simp only[aj,SS,sa,az]at*))
 all_goals iterate 1 (try simp(disch:=assumption) only[iy,List.cons_append,List.nil_append]at*)
 all_goals exact Tg
theorem wJ {a0 a1:aa}(hp:Rw [.sl [tI,tI]] a0/\Rw [.sl [tI]] a1/\aw [a0,a1]<=1048576):au 47 [.agg [.s 1 a0,.s 1 a1]] [.agg [.s 1 a0,.s 1 a1]]:=by
 obtain⟨w0,w1,hlim⟩:=hp;simp only[aw,Nat.add_zero]at hlim;refine cb LMail.B Tryz.func47 ?_
 exact Te
theorem wz {a0 a1:aa}{d:DV}(hp:d=.agg [.s 1 a0,.s 1 a1]/\Rw [.sl [tI,tI]] a0/\Rw [.sl [tI]] a1/\aw [a0,a1]<=1099511627776):au 59 [.agg [.s 1 a0,.s 1 a1],d] [.k true]:=by
 obtain⟨rfl,w0,w1,hlim⟩:=hp;simp only[aw,Nat.add_zero]at hlim;refine cb LMail.B Tryz.func59 ?_
 exact Td
theorem rJ {a0 a1:aa}{k:Int}(hp:Rw [.sl [tI,tI]] a0/\Rw [.sl [tI]] a1/\aw [a0,a1]<=1099511627776/\0<=k/\ao [a0,a1] k<=1152921504606846976):eg 68 [.agg [.s 1 a0,.s 1 a1],.j k] [.s 1 (am a0 k),.s 1 (am a1 (ao [a0] k))] [.j (ao [a0,a1] k)]:=by
 obtain⟨w0,w1,hlim,hk0,hkb⟩:=hp;simp only[aw,Nat.add_zero]at hlim;have p0:ao [a0] k<=ao [a0,a1] k/\0<=ao [a0] k:=bu (b:=[a1]) hk0;have p1:ao [a0,a1] k<=ao [a0,a1] k/\0<=ao [a0,a1] k:=bu (b:=[]) hk0;refine mb MMail.B [(2,0),(2,1)] Tryz.func68 ?_
 exact JX
theorem rF {m0 m1:aa}{k:Int}(hp:(∃ a0,m0=am a0 k/\Rw [.sl [tI,tI]] a0/\ah a0<=1099511627776)/\(∃ a1,m1=am a1 (ao [m0] k)/\Rw [.sl [tI]] a1/\ah a1<=1099511627776)/\0<=k/\ao [m0,m1] k<=1152921504606846976):au 77 [.agg [.s 1 m0,.s 1 m1],.j k] [.j (ao [m0,m1] k)]:=by
 obtain⟨e0,e1,hk0,hkb⟩:=hp;have p0:ao [m0] k<=ao [m0,m1] k/\0<=ao [m0] k:=bu (b:=[m1]) hk0;have p1:ao [m0,m1] k<=ao [m0,m1] k/\0<=ao [m0,m1] k:=bu (b:=[]) hk0;refine cb MMail.B Tryz.func77 ?_
 exact SK
namespace LQuar
structure aQ where
 szN:List aa->Int->Int
abbrev F0 :aQ:=⟨bK⟩
def ct (F:aQ):CT:=fun f ds=>match f,ds with
 |115,[.one (.s 3 es),.one (.v (.int .i64 left))]=>some (fun _=>Rw [tI,tI,tI] es/\0<=left/\left<=1048576,[.j (F.szN [es] left)])
 |144,[.one (.s 3 es)]=>some (fun _=>Rw [tI,tI,tI] es/\ah es<=1048576,[.one (.s 3 es)])
 |173,[.one (.s 3 es),d]=>some (fun _=>d=.one (.s 3 es)/\Rw [tI,tI,tI] es/\ah es<=1099511627776,[.k true])
 |_,_=>none
theorem ai :aS (ct F0):=by
 intro f ds pre res h hp;unfold ct at h;split at h<;>cases h
 exact rU hp;exact se hp;exact rE hp
abbrev B :cy:=tb ai
end LQuar
namespace MQuar
structure aQ where
 kN:List aa->Int->Int
 mkN:aa->Int->aa
abbrev F0 :aQ:=⟨ao,am⟩
def ct (F:aQ):CT:=fun f ds=>match f,ds with
 |185,[.one (.s 3 ms),.one (.v (.int .i64 k))]=>some (fun _=>∃ es,ms=am es k/\Rw [tI,tI,tI] es/\ah es<=1099511627776/\0<=k/\ao [ms] k<=1152921504606846976,[.j (F.kN [ms] k)])
 |_,_=>none
theorem ai :aS (ct F0):=by
 intro f ds pre res h hp;unfold ct at h;split at h<;>cases h
 exact nq hp
def mt (F:aQ):MT:=fun f=>match f with
 | 179=>some fun ds=>match ds with
   |[.one (.s 3 es),.one (.v (.int .i64 k))]=>some (fun _=>Rw [tI,tI,tI] es/\ah es<=1099511627776/\0<=k/\ao [es] k<=1152921504606846976,[.s 3 (F.mkN es k)],[.j (F.kN [es] k)])
   |_=>none
 |_=>none
theorem cW :gh (mt F0):=by
 intro f mk h ds pre outs res hm hp;unfold mt at h;split at h
 ·cases h;dsimp only at hm;split at hm
  ·cases hm;exact nG hp
  ·cases hm
 ·cases h
abbrev B :cy:={Φ:=aQ,F0:=F0,ct:=ct,hc:=ai,mt:=mt,hm:=cW}
end MQuar
theorem wI {a0:Int}{a1:aa}{left:Int}(hp:Rw [tI,tI,tI] a1/\0<=left/\left<=1048576):au 36 [.agg [.i a0,.s 3 a1],.j left] [.j (bK [a1] left)]:=by
 obtain⟨w0,h0,h1⟩:=hp;refine cb LQuar.B Tryz.func36 ?_
 exact SY
theorem wN {a0:Int}{a1:aa}(hp:Rw [tI,tI,tI] a1/\aw [a1]<=1048576):au 48 [.agg [.i a0,.s 3 a1]] [.agg [.i a0,.s 3 a1]]:=by
 obtain⟨w0,hlim⟩:=hp;simp only[aw,Nat.add_zero]at hlim;refine cb LQuar.B Tryz.func48 ?_
 exact sK
theorem wD {a0:Int}{a1:aa}{d:DV}(hp:d=.agg [.i a0,.s 3 a1]/\Rw [tI,tI,tI] a1/\aw [a1]<=1099511627776):au 60 [.agg [.i a0,.s 3 a1],d] [.k true]:=by
 obtain⟨rfl,w0,hlim⟩:=hp;simp only[aw,Nat.add_zero]at hlim;refine cb LQuar.B Tryz.func60 ?_
 exact sK
theorem rM {a0:Int}{a1:aa}{k:Int}(hp:Rw [tI,tI,tI] a1/\aw [a1]<=1099511627776/\0<=k/\ao [a1] k<=1152921504606846976):eg 69 [.agg [.i a0,.s 3 a1],.j k] [.s 3 (am a1 k)] [.j (ao [a1] k)]:=by
 obtain⟨w0,hlim,hk0,hkb⟩:=hp;simp only[aw,Nat.add_zero]at hlim;have p0:ao [a1] k<=ao [a1] k/\0<=ao [a1] k:=bu (b:=[]) hk0;refine mb MQuar.B [(2,1)] Tryz.func69 ?_
 exact J0
theorem rI {m0:Int}{m1:aa}{k:Int}(hp:(∃ a1,m1=am a1 k/\Rw [tI,tI,tI] a1/\ah a1<=1099511627776)/\0<=k/\ao [m1] k<=1152921504606846976):au 78 [.agg [.i m0,.s 3 m1],.j k] [.j (ao [m1] k)]:=by
 obtain⟨e0,hk0,hkb⟩:=hp;have p0:ao [m1] k<=ao [m1] k/\0<=ao [m1] k:=bu (b:=[]) hk0;refine cb MQuar.B Tryz.func78 ?_
 exact JY
namespace LPlan
structure aQ where
 szN:List aa->Int->Int
abbrev F0 :aQ:=⟨bK⟩
def ct (F:aQ):CT:=fun f ds=>match f,ds with
 |111,[.one (.s 1 es),.one (.v (.int .i64 left))]=>some (fun _=>Rw [tI] es/\0<=left/\left<=1048576,[.j (F.szN [es] left)])
 |136,[.one (.s 1 es)]=>some (fun _=>Rw [tI] es/\ah es<=1048576,[.one (.s 1 es)])
 |165,[.one (.s 1 es),d]=>some (fun _=>d=.one (.s 1 es)/\Rw [tI] es/\ah es<=1099511627776,[.k true])
 |_,_=>none
theorem ai :aS (ct F0):=by
 intro f ds pre res h hp;unfold ct at h;split at h<;>cases h
 exact iH hp;exact iJ hp;exact iF hp
abbrev B :cy:=tb ai
end LPlan
namespace MPlan
structure aQ where
 kN:List aa->Int->Int
 mkN:aa->Int->aa
abbrev F0 :aQ:=⟨ao,am⟩
def ct (F:aQ):CT:=fun f ds=>match f,ds with
 |182,[.one (.s 1 ms),.one (.v (.int .i64 k))]=>some (fun _=>∃ es,ms=am es k/\Rw [tI] es/\ah es<=1099511627776/\0<=k/\ao [ms] k<=1152921504606846976,[.j (F.kN [ms] k)])
 |_,_=>none
theorem ai :aS (ct F0):=by
 intro f ds pre res h hp;unfold ct at h;split at h<;>cases h
 exact fX hp
def mt (F:aQ):MT:=fun f=>match f with
 | 176=>some fun ds=>match ds with
   |[.one (.s 1 es),.one (.v (.int .i64 k))]=>some (fun _=>Rw [tI] es/\ah es<=1099511627776/\0<=k/\ao [es] k<=1152921504606846976,[.s 1 (F.mkN es k)],[.j (F.kN [es] k)])
   |_=>none
 |_=>none
theorem cW :gh (mt F0):=by
 intro f mk h ds pre outs res hm hp;unfold mt at h;split at h
 ·cases h;dsimp only at hm;split at hm
  ·cases hm;exact fZ hp
  ·cases hm
 ·cases h
abbrev B :cy:={Φ:=aQ,F0:=F0,ct:=ct,hc:=ai,mt:=mt,hm:=cW}
end MPlan
theorem wH {a0 a1:Int}{a2:aa}{left:Int}(hp:Rw [tI] a2/\0<=left/\left<=1048576):au 116 [.agg [.i a0,.i a1,.s 1 a2],.j left] [.j (bK [a2] left)]:=by
 obtain⟨w0,h0,h1⟩:=hp;refine cb LPlan.B Tryz.func116 ?_
 exact SZ
theorem wL {a0 a1:Int}{a2:aa}(hp:Rw [tI] a2/\aw [a2]<=1048576):au 145 [.agg [.i a0,.i a1,.s 1 a2]] [.agg [.i a0,.i a1,.s 1 a2]]:=by
 obtain⟨w0,hlim⟩:=hp;simp only[aw,Nat.add_zero]at hlim;refine cb LPlan.B Tryz.func145 ?_
 exact sK
theorem wB {a0 a1:Int}{a2:aa}{d:DV}(hp:d=.agg [.i a0,.i a1,.s 1 a2]/\Rw [tI] a2/\aw [a2]<=1099511627776):au 174 [.agg [.i a0,.i a1,.s 1 a2],d] [.k true]:=by
 obtain⟨rfl,w0,hlim⟩:=hp;simp only[aw,Nat.add_zero]at hlim;refine cb LPlan.B Tryz.func174 ?_
 exact sK
theorem rL {a0 a1:Int}{a2:aa}{k:Int}(hp:Rw [tI] a2/\aw [a2]<=1099511627776/\0<=k/\ao [a2] k<=1152921504606846976):eg 180 [.agg [.i a0,.i a1,.s 1 a2],.j k] [.s 1 (am a2 k)] [.j (ao [a2] k)]:=by
 obtain⟨w0,hlim,hk0,hkb⟩:=hp;simp only[aw,Nat.add_zero]at hlim;have p0:ao [a2] k<=ao [a2] k/\0<=ao [a2] k:=bu (b:=[]) hk0;refine mb MPlan.B [(2,2)] Tryz.func180 ?_
 exact J0
theorem rH {m0 m1:Int}{m2:aa}{k:Int}(hp:(∃ a2,m2=am a2 k/\Rw [tI] a2/\ah a2<=1099511627776)/\0<=k/\ao [m2] k<=1152921504606846976):au 186 [.agg [.i m0,.i m1,.s 1 m2],.j k] [.j (ao [m2] k)]:=by
 obtain⟨e0,hk0,hkb⟩:=hp;have p0:ao [m2] k<=ao [m2] k/\0<=ao [m2] k:=bu (b:=[]) hk0;refine cb MPlan.B Tryz.func186 ?_
 exact JY
namespace LJob
structure aQ where
 szN:List aa->Int->Int
abbrev F0 :aQ:=⟨bK⟩
def ct (F:aQ):CT:=fun f ds=>match f,ds with
 |116,[.agg [.v (.int .i64 a0),.v (.int .i64 a1),.s 1 a2],.one (.v (.int .i64 left))]=>some (fun _=>Rw [tI] a2/\0<=left/\left<=1048576,[.j (F.szN [a2] left)])
 |145,[.agg [.v (.int .i64 a0),.v (.int .i64 a1),.s 1 a2]]=>some (fun _=>Rw [tI] a2/\aw [a2]<=1048576,[.agg [.i a0,.i a1,.s 1 a2]])
 |174,[.agg [.v (.int .i64 a0),.v (.int .i64 a1),.s 1 a2],d]=>some (fun _=>d=.agg [.i a0,.i a1,.s 1 a2]/\Rw [tI] a2/\aw [a2]<=1099511627776,[.k true])
 |_,_=>none
theorem ai :aS (ct F0):=by
 intro f ds pre res h hp;unfold ct at h;split at h<;>cases h
 exact wH hp;exact wL hp;exact wB hp
abbrev B :cy:=tb ai
end LJob
namespace MJob
structure aQ where
 kN:List aa->Int->Int
 mkN:aa->Int->aa
abbrev F0 :aQ:=⟨ao,am⟩
def ct (F:aQ):CT:=fun f ds=>match f,ds with
 |186,[.agg [.v (.int .i64 m0),.v (.int .i64 m1),.s 1 m2],.one (.v (.int .i64 k))]=>some (fun _=>(∃ a2,m2=am a2 k/\Rw [tI] a2/\ah a2<=1099511627776)/\0<=k/\ao [m2] k<=1152921504606846976,[.j (F.kN [m2] k)])
 |_,_=>none
theorem ai :aS (ct F0):=by
 intro f ds pre res h hp;unfold ct at h;split at h<;>cases h
 exact rH hp
def mt (F:aQ):MT:=fun f=>match f with
 | 180=>some fun ds=>match ds with
   |[.agg [.v (.int .i64 a0),.v (.int .i64 a1),.s 1 a2],.one (.v (.int .i64 k))]=>some (fun _=>Rw [tI] a2/\aw [a2]<=1099511627776/\0<=k/\ao [a2] k<=1152921504606846976,[.s 1 (F.mkN a2 k)],[.j (F.kN [a2] k)])
   |_=>none
 |_=>none
theorem cW :gh (mt F0):=by
 intro f mk h ds pre outs res hm hp;unfold mt at h;split at h
 ·cases h;dsimp only at hm;split at hm
  ·cases hm;exact rL hp
  ·cases hm
 ·cases h
abbrev B :cy:={Φ:=aQ,F0:=F0,ct:=ct,hc:=ai,mt:=mt,hm:=cW}
end MJob
theorem yt {a0 a1:Int}{a2:aa}{a3 a4 left:Int}(hp:Rw [tI] a2/\0<=left/\left<=1048576):au 37 [.agg [.i a0,.i a1,.s 1 a2,.i a3,.i a4],.j left] [.j (bK [a2] left)]:=by
 obtain⟨w0,h0,h1⟩:=hp;refine cb LJob.B Tryz.func37 ?_
 exact SZ
theorem yu {a0 a1:Int}{a2:aa}{a3 a4:Int}(hp:Rw [tI] a2/\aw [a2]<=1048576):au 49 [.agg [.i a0,.i a1,.s 1 a2,.i a3,.i a4]] [.agg [.i a0,.i a1,.s 1 a2,.i a3,.i a4]]:=by
 obtain⟨w0,hlim⟩:=hp;simp only[aw,Nat.add_zero]at hlim;refine cb LJob.B Tryz.func49 ?_
 exact sK
theorem yq {a0 a1:Int}{a2:aa}{a3 a4:Int}{d:DV}(hp:d=.agg [.i a0,.i a1,.s 1 a2,.i a3,.i a4]/\Rw [tI] a2/\aw [a2]<=1099511627776):au 61 [.agg [.i a0,.i a1,.s 1 a2,.i a3,.i a4],d] [.k true]:=by
 obtain⟨rfl,w0,hlim⟩:=hp;simp only[aw,Nat.add_zero]at hlim;refine cb LJob.B Tryz.func61 ?_
 exact sK
theorem tW {a0 a1:Int}{a2:aa}{a3 a4 k:Int}(hp:Rw [tI] a2/\aw [a2]<=1099511627776/\0<=k/\ao [a2] k<=1152921504606846976):eg 70 [.agg [.i a0,.i a1,.s 1 a2,.i a3,.i a4],.j k] [.s 1 (am a2 k)] [.j (ao [a2] k)]:=by
 obtain⟨w0,hlim,hk0,hkb⟩:=hp;simp only[aw,Nat.add_zero]at hlim;have p0:ao [a2] k<=ao [a2] k/\0<=ao [a2] k:=bu (b:=[]) hk0;refine mb MJob.B [(2,2)] Tryz.func70 ?_
 exact J0
theorem tV {m0 m1:Int}{m2:aa}{m3 m4 k:Int}(hp:(∃ a2,m2=am a2 k/\Rw [tI] a2/\ah a2<=1099511627776)/\0<=k/\ao [m2] k<=1152921504606846976):au 79 [.agg [.i m0,.i m1,.s 1 m2,.i m3,.i m4],.j k] [.j (ao [m2] k)]:=by
 obtain⟨e0,hk0,hkb⟩:=hp;have p0:ao [m2] k<=ao [m2] k/\0<=ao [m2] k:=bu (b:=[]) hk0;refine cb MJob.B Tryz.func79 ?_
 exact JY
end Go.V