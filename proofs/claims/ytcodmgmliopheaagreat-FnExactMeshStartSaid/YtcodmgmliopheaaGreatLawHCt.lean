/- Contracts. -/
import Derived.Test.YtcodmgmliopheaaGreatLawHAt
import Derived.Test.YtcodmgmliopheaaGreatLawHEt
set_option linter.all false
namespace Go.V
open Go Go.Proofs
set_option maxRecDepth 1000000
set_option maxHeartbeats 8000000
namespace LCache
structure aQ where
 szN:List aa->Int->Int
abbrev F0 :aQ:=⟨bJ⟩
def ct (F:aQ):CT:=fun f ds=>match f,ds with
 |126,[.one (.s 1 es),.one (.v (.int .i64 left))]=>some (fun _=>Rw [.sl [tI]] es/\0<=left/\left<=1048576,[.j (F.szN [es] left)])
 |156,[.one (.s 1 es)]=>some (fun _=>Rw [.sl [tI]] es/\ag es<=1048576,[.one (.s 1 es)])
 |186,[.one (.s 1 es),d]=>some (fun _=>d=.one (.s 1 es)/\Rw [.sl [tI]] es/\ag es<=1099511627776,[.k true])
 |_,_=>none
theorem ah :aR (ct F0):=by
 intro f ds pre res h hp;unfold ct at h;split at h<;>cases h
 exact gf hp;exact gg hp;exact gd hp
abbrev B :cq:=tb ah
end LCache
theorem te {a0:aa}{left:Int}(hp:Rw [.sl [tI]] a0/\0<=left/\left<=1048576):ap 124 [.agg [.s 1 a0],.j left] [.j (bJ [a0] left)]:=by
 obtain⟨w0,h0,h1⟩:=hp;refine cb LCache.B Tryz.func124 ?_
 exact S8
theorem tq {a0:aa}(hp:Rw [.sl [tI]] a0/\aw [a0]<=1048576):ap 154 [.agg [.s 1 a0]] [.agg [.s 1 a0]]:=by
 obtain⟨w0,hlim⟩:=hp;simp only[aw,Nat.add_zero]at hlim;refine cb LCache.B Tryz.func154 ?_
 exact rT
theorem sV {a0:aa}{d:DV}(hp:d=.agg [.s 1 a0]/\Rw [.sl [tI]] a0/\aw [a0]<=1099511627776):ap 184 [.agg [.s 1 a0],d] [.k true]:=by
 obtain⟨rfl,w0,hlim⟩:=hp;simp only[aw,Nat.add_zero]at hlim;refine cb LCache.B Tryz.func184 ?_
 exact rT
namespace LCacheS
structure aQ where
 szN:List aa->Int->Int
abbrev F0 :aQ:=⟨bJ⟩
def ct (F:aQ):CT:=fun f ds=>match f,ds with
 |124,[.agg [.s 1 a0],.one (.v (.int .i64 left))]=>some (fun _=>Rw [.sl [tI]] a0/\0<=left/\left<=1048576,[.j (F.szN [a0] left)])
 |154,[.agg [.s 1 a0]]=>some (fun _=>Rw [.sl [tI]] a0/\aw [a0]<=1048576,[.agg [.s 1 a0]])
 |184,[.agg [.s 1 a0],d]=>some (fun _=>d=.agg [.s 1 a0]/\Rw [.sl [tI]] a0/\aw [a0]<=1099511627776,[.k true])
 |_,_=>none
theorem ah :aR (ct F0):=by
 intro f ds pre res h hp;unfold ct at h;split at h<;>cases h
 exact te hp;exact tq hp;exact sV hp
abbrev B :cq:=tb ah
end LCacheS
namespace MCacheS
structure aQ where
 kN:List aa->Int->Int
 mkN:aa->Int->aa
abbrev F0 :aQ:=⟨am,ao⟩
def ct (F:aQ):CT:=fun f ds=>match f,ds with
 |197,[.one (.s 1 ms),.one (.v (.int .i64 k))]=>some (fun _=>∃ es,ms=ao es k/\Rw [.sl [tI]] es/\ag es<=1099511627776/\0<=k/\am [ms] k<=1152921504606846976,[.j (F.kN [ms] k)])
 |_,_=>none
theorem ah :aR (ct F0):=by
 intro f ds pre res h hp;unfold ct at h;split at h<;>cases h
 exact eY hp
def mt (F:aQ):MT:=fun f=>match f with
 | 191=>some fun ds=>match ds with
   |[.one (.s 1 es),.one (.v (.int .i64 k))]=>some (fun _=>Rw [.sl [tI]] es/\ag es<=1099511627776/\0<=k/\am [es] k<=1152921504606846976,[.s 1 (F.mkN es k)],[.j (F.kN [es] k)])
   |_=>none
 |_=>none
theorem cV :fZ (mt F0):=by
 intro f mk h ds pre outs res hm hp;unfold mt at h;split at h
 ·cases h;dsimp only at hm;split at hm
  ·cases hm;exact eZ hp
  ·cases hm
 ·cases h
abbrev B :cq:={Φ:=aQ,F0:=F0,ct:=ct,hc:=ah,mt:=mt,hm:=cV}
end MCacheS
theorem qT {es:aa}{left:Int}(hp:Rw [.sl [.sl [tI]]] es/\0<=left/\left<=1048576):ap 37 [.one (.s 1 es),.j left] [.j (bJ [es] left)]:=by
 obtain⟨hw,h0,h1⟩:=hp;have hwf:Wf [.s 1 []] es:=hw.wf;have hm:=hw.1;unfold maxLen at hm;have hs:bH .sub .i64 left es.length=left-es.length:=cB (by omega);have hcE:ag es=es.length+bz es:=rfl;have hn:bJ [es] left=if left<ag es then-1 else left-ag es:=by unfold bJ;rw[cP]
 refine cb LCacheS.B Tryz.func37 ?_
 intro O r F hO hr hF;cbv
 apply bi<;>intro hb<;>cbv
 ·repeat' first|apply And.intro|(apply bi<;>intro hb<;>cbv)
  all_goals exact N7
 have hb0:0<=left-es.length:=by
  (subst hO hr hF;(try simp only[nc]at*);(try simp only[ai,SS,sa,az]at*))
  rw[hs]at hb;exact hb
 clear hb;refine⟨[0,1,5],[],Int×Int,fun s=>match s with|(i,l)=>[.reg 5 (.j i),.reg 1 (.j l)],fun s=>0<=s.1/\s.1.toNat<=es.length/\0<=s.2/\s.2=left-es.length-bz (es.take s.1.toNat),fun s=>es.length-s.1.toNat,⟨(0,O.ar .sub .i64 left (O.zi (O.ln es))),?_,?_⟩,?_⟩
 ·(subst hO hr hF;(try simp only[nc]at*);(try simp only[ai,SS,sa,az]at*))
  rw[hs];exact⟨by omega,Nat.zero_le _,hb0,by simp[bz]⟩
 ·cbv
 ·rintro⟨i,l⟩ hi;replace hi:0<=i/\i.toNat<=es.length/\0<=l/\l=left-es.length-bz (es.take i.toNat):=hi;obtain⟨g0,g1,g2,g3⟩:=hi;cbv
  repeat' first|apply And.intro|(apply bi<;>intro hb<;>cbv)|(refine ab (O.ar .add .i64 i 1,F.szN [O.gs es i 0] l) ?_ ?_ ?_;focus (cbv;done))
  all_goals(subst hO hr hF;(try simp only[nc]at*);(try simp only[ai,SS,sa,az]at*))
  all_goals have hle:=bF (es:=es) (n:=i.toNat)
  all_goals have hsz:=gV (a:=[ax es i 0]) (left:=l)
  all_goals((have hsz2:0<=bJ [ax es i 0] l->bJ [ax es i 0] l=l-aw [ax es i 0]:=nT);(try have hlt:i<es.length:=by assumption);(try have he:es.getD i.toNat []=[.s 1 (ax es i 0)]:=(au hwf g0 hlt).symm);(try rw[cS (n:=es.length) g0 hlt (by omega)]);(try have hr0:Rw [.sl [tI]] (ax es i 0):=Rw.sub (fs:=[.sl [.sl [tI]]]) hw (by omega) rfl))
  all_goals exact N5
theorem q8 {es:aa}(hp:Rw [.sl [.sl [tI]]] es/\ag es<=1048576):ap 49 [.one (.s 1 es)] [.one (.s 1 es)]:=by
 obtain⟨hw,hlim⟩:=hp;have hwf:Wf [.s 1 []] es:=hw.wf;have hlen:=cK hlim;refine cb LCacheS.B Tryz.func49 ?_
 intro O r F hO hr hF;cbv
 have h0z:b8 es [.s 1 []] 0=O.rep (O.zi (O.ln es)) [.s 1 []]:=by
  subst hO;rw[cE];rfl
 refine⟨?_,?_,[0,3,4],[3],Int×aa,fun s=>[.reg 4 (.j s.1),.leaf 3 0 ⟨0,0,none,.own (.s 1 s.2)⟩],fun s=>0<=s.1/\s.1.toNat<=es.length/\s.2=b8 es [.s 1 []] s.1.toNat,fun s=>es.length-s.1.toNat,⟨(0,O.rep (O.zi (O.ln es)) [.s 1 []]),?_,?_⟩,?_⟩
 ·subst hO;exact jG (b:=24) (show es.length*_<=_ by omega) (show es.length<=_ by omega)
 ·subst hO;exact⟨rfl,rfl⟩
 ·exact⟨by omega,Nat.zero_le _,h0z.symm⟩
 ·cbv
 ·rintro⟨i,m⟩ hi;replace hi:0<=i/\i.toNat<=es.length/\m=b8 es [.s 1 []] i.toNat:=hi;obtain⟨g0,g1,hm⟩:=hi;cbv
  repeat' first|apply And.intro|(apply bi<;>intro hb<;>cbv)|(refine ab (O.ar .add .i64 i 1,O.up (.s 1 m) [(O.ad 0 i,0)] [.s 1 (O.gs es i 0)]) ?_ ?_ ?_;focus (cbv;done))
  all_goals(subst hO hr hF;(try simp only[nc]at*);(try simp only[ai,SS,sa,az]at*);(try simp only[kU,List.length_replicate,Int.toNat_natCast]at*);(try have hlt:i<es.length:=by assumption);(try have he:es.getD i.toNat []=[.s 1 (ax es i 0)]:=(au hwf g0 hlt).symm);(try rw[cS (n:=es.length) g0 hlt (by omega)]);(try have hr0:Rw [.sl [tI]] (ax es i 0):=Rw.sub (fs:=[.sl [.sl [tI]]]) hw (by omega) rfl))
  all_goals exact N4
theorem qD {es:aa}{d:DV}(hp:d=.one (.s 1 es)/\Rw [.sl [.sl [tI]]] es/\ag es<=1099511627776):ap 61 [.one (.s 1 es),d] [.k true]:=by
 obtain⟨rfl,hw,hlim⟩:=hp;have hwf:Wf [.s 1 []] es:=hw.wf;have hlen:=cK hlim;refine cb LCacheS.B Tryz.func61 ?_
 intro O r F hO hr hF;cbv
 apply bi<;>intro hb<;>cbv
 ·(subst hO hr hF;(try simp only[nc]at*);(try simp only[ai,SS,sa,az]at*));exact absurd rfl hb
 ·clear hb;refine⟨[0,1,5],[],Int,fun i=>[.reg 5 (.j i)],fun i=>0<=i/\i.toNat<=es.length,fun i=>es.length-i.toNat,⟨0,?_,?_⟩,?_⟩
  ·exact⟨by omega,Nat.zero_le _⟩
  ·cbv
  ·rintro i hi;replace hi:0<=i/\i.toNat<=es.length:=hi;obtain⟨g0,g1⟩:=hi;cbv
   repeat' first|apply And.intro|(apply bi<;>intro hb<;>cbv)|(refine ab (O.ar .add .i64 i 1) ?_ ?_ ?_;focus (cbv;done))
   all_goals(subst hO hr hF;(try simp only[nc]at*);(try simp only[ai,SS,sa,az]at*);(try have hlt:i<es.length:=by assumption);(try have he:es.getD i.toNat []=[.s 1 (ax es i 0)]:=(au hwf g0 hlt).symm);(try rw[cS (n:=es.length) g0 hlt (by omega)]);(try have hr0:Rw [.sl [tI]] (ax es i 0):=Rw.sub (fs:=[.sl [.sl [tI]]]) hw (by omega) rfl))
   all_goals exact N6
theorem mK {es:aa}{k:Int}(hp:Rw [.sl [.sl [tI]]] es/\ag es<=1099511627776/\0<=k/\am [es] k<=1152921504606846976):dZ 70 [.one (.s 1 es),.j k] [.s 1 (ao es k)] [.j (am [es] k)]:=by
 obtain⟨hw,hlim,hk0,hkb⟩:=hp;have hwf:Wf [.s 1 []] es:=hw.wf;have hlen:=cK hlim;refine mb MCacheS.B [(0,0)] Tryz.func70 ?_
 intro O r os F hO hr hos hF;cbv
 refine⟨[0,1,5],[0],Int×Int×aa,fun s=>match s with|(i,k',cur)=>[.reg 5 (.j i),.reg 1 (.j k'),.leaf 0 0 ⟨0,0,some 0,.own (.s 1 cur)⟩],fun s=>0<=s.1/\s.1.toNat<=es.length/\s.2.1=du es k s.1.toNat/\s.2.2=dM es k s.1.toNat,fun s=>es.length-s.1.toNat,⟨(0,k,es),?_,?_⟩,?_⟩
 ·exact⟨by omega,Nat.zero_le _,bG.symm,cR.symm⟩
 ·cbv
 ·rintro⟨i,k',cur⟩ hi;replace hi:0<=i/\i.toNat<=es.length/\k'=du es k i.toNat/\cur=dM es k i.toNat:=hi;obtain⟨g0,g1,hk',hc⟩:=hi;cbv
  repeat' first|apply And.intro|(apply bi<;>intro hb<;>cbv)|(refine ab (O.ar .add .i64 i 1,F.kN [O.ps (.s 1 (cur)) [(O.ad 0 i,0)]] (k'),O.up (.s 1 (cur)) [(O.ad 0 i,0)] [.s 1 (F.mkN (O.ps (.s 1 (cur)) [(O.ad 0 i,0)]) (k'))]) ?_ ?_ ?_;focus (cbv;done))
  all_goals((try subst hos);subst hO hr hF;(try simp only[nc]at*);(try simp only[ai,SS,sa,az]at*);(try have hlt:i<es.length:=by assumption);(try have he:es.getD i.toNat []=[.s 1 (ax es i 0)]:=(au hwf g0 hlt).symm);(try have hcg:cur.getD i.toNat []=[.s 1 (ax es i 0)]:=by rw[hc,cQ g1];exact he);(try rw[cS (n:=es.length) g0 hlt (by omega)]);(try have hlt':i.toNat<es.length:=by omega);(try have hr0:Rw [.sl [tI]] (ax es i 0):=Rw.sub (fs:=[.sl [.sl [tI]]]) hw (by omega) rfl))
  all_goals exact Vy
theorem mC {ms:aa}{k:Int}(hp:∃ es,ms=ao es k/\Rw [.sl [.sl [tI]]] es/\ag es<=1099511627776/\0<=k/\am [ms] k<=1152921504606846976):ap 79 [.one (.s 1 ms),.j k] [.j (am [ms] k)]:=by
 obtain⟨es,hms,hw,hlim,hk0,hkb⟩:=hp;have hlen:=cK hlim;have hml:ms.length=es.length:=by rw[hms];exact b9
 have hkk:am [ms] k=am [es] k:=by rw[hms];exact jE
 have hwm:Wf [.s 1 []] ms:=by rw[hms];exact cD hw
 have hwf:Wf [.s 1 []] es:=hw.wf;have hat:∀ n,n<es.length->ms.getD n []=(d6 (es.getD n []) (du es k n)).1:=fun n hn=>by rw[hms];exact fN hn
 refine cb MCacheS.B Tryz.func79 ?_
 intro O r F hO hr hF;cbv
 refine⟨[0,1,5],[],Int×Int,fun s=>match s with|(i,k')=>[.reg 5 (.j i),.reg 1 (.j k')],fun s=>0<=s.1/\s.1.toNat<=es.length/\s.2=du es k s.1.toNat,fun s=>es.length-s.1.toNat,⟨(0,k),?_,?_⟩,?_⟩
 ·exact⟨by omega,Nat.zero_le _,bG.symm⟩
 ·cbv
 ·rintro⟨i,k'⟩ hi;replace hi:0<=i/\i.toNat<=es.length/\k'=du es k i.toNat:=hi;obtain⟨g0,g1,hk'⟩:=hi;cbv
  repeat' first|apply And.intro|(apply bi<;>intro hb<;>cbv)|(refine ab (O.ar .add .i64 i 1,F.kN [O.gs ms i 0] (k')) ?_ ?_ ?_;focus (cbv;done))
  all_goals(subst hO hr hF;(try simp only[nc]at*);(try simp only[ai,SS,sa,az]at*);(try have hltm:i<ms.length:=by assumption);(try have hlt:i<es.length:=by omega);(try have he:es.getD i.toNat []=[.s 1 (ax es i 0)]:=(au hwf g0 hlt).symm);(try rw[cS (n:=es.length) g0 hlt (by omega)]);(try have hlt':i.toNat<es.length:=by omega);(try have hr0:Rw [.sl [tI]] (ax es i 0):=Rw.sub (fs:=[.sl [.sl [tI]]]) hw (by omega) rfl);(try have hct:=cg (es:=es) (n:=i.toNat) (by omega);rw[he]at hct;simp only[cz,dz,Nat.add_zero,Nat.zero_add]at hct);(try have hks:=cF (es:=es) (k:=k) hlt';rw[he]at hks;simp only[d6,eA]at hks);(try have hem:([.s 1 (ax ms i 0)]:ay)=_:=(au hwm g0 hltm).trans (hat i.toNat hlt');rw[he]at hem;simp only[d6,eA,List.cons.injEq,L.v.injEq,Value.int.injEq,Value.bool.injEq,L.s.injEq,true_and,and_true]at hem))
  all_goals exact Vz
namespace LPostSS
structure aQ where
 szN:List aa->Int->Int
abbrev F0 :aQ:=⟨bJ⟩
def ct (F:aQ):CT:=fun f ds=>match f,ds with
 |261,[.one (.s 2 es),.one (.v (.int .i64 left))]=>some (fun _=>Rw [tI,tI] es/\0<=left/\left<=1048576,[.j (F.szN [es] left)])
 |281,[.one (.s 2 es)]=>some (fun _=>Rw [tI,tI] es/\ag es<=1048576,[.one (.s 2 es)])
 |300,[.one (.s 2 es),d]=>some (fun _=>d=.one (.s 2 es)/\Rw [tI,tI] es/\ag es<=1099511627776,[.k true])
 |_,_=>none
theorem ah :aR (ct F0):=by
 intro f ds pre res h hp;unfold ct at h;split at h<;>cases h
 exact tg hp;exact tw hp;exact sY hp
abbrev B :cq:=tb ah
end LPostSS
namespace MPostSS
structure aQ where
 kN:List aa->Int->Int
 mkN:aa->Int->aa
abbrev F0 :aQ:=⟨am,ao⟩
def ct (F:aQ):CT:=fun f ds=>match f,ds with
 |307,[.one (.s 2 ms),.one (.v (.int .i64 k))]=>some (fun _=>∃ es,ms=ao es k/\Rw [tI,tI] es/\ag es<=1099511627776/\0<=k/\am [ms] k<=1152921504606846976,[.j (F.kN [ms] k)])
 |_,_=>none
theorem ah :aR (ct F0):=by
 intro f ds pre res h hp;unfold ct at h;split at h<;>cases h
 exact oJ hp
def mt (F:aQ):MT:=fun f=>match f with
 | 304=>some fun ds=>match ds with
   |[.one (.s 2 es),.one (.v (.int .i64 k))]=>some (fun _=>Rw [tI,tI] es/\ag es<=1099511627776/\0<=k/\am [es] k<=1152921504606846976,[.s 2 (F.mkN es k)],[.j (F.kN [es] k)])
   |_=>none
 |_=>none
theorem cV :fZ (mt F0):=by
 intro f mk h ds pre outs res hm hp;unfold mt at h;split at h
 ·cases h;dsimp only at hm;split at hm
  ·cases hm;exact oN hp
  ·cases hm
 ·cases h
abbrev B :cq:={Φ:=aQ,F0:=F0,ct:=ct,hc:=ah,mt:=mt,hm:=cV}
end MPostSS
theorem qY {es:aa}{left:Int}(hp:Rw [.sl [tI,tI]] es/\0<=left/\left<=1048576):ap 125 [.one (.s 1 es),.j left] [.j (bJ [es] left)]:=by
 obtain⟨hw,h0,h1⟩:=hp;have hwf:Wf [.s 2 []] es:=hw.wf;have hm:=hw.1;unfold maxLen at hm;have hs:bH .sub .i64 left es.length=left-es.length:=cB (by omega);have hcE:ag es=es.length+bz es:=rfl;have hn:bJ [es] left=if left<ag es then-1 else left-ag es:=by unfold bJ;rw[cP]
 refine cb LPostSS.B Tryz.func125 ?_
 intro O r F hO hr hF;cbv
 apply bi<;>intro hb<;>cbv
 ·repeat' first|apply And.intro|(apply bi<;>intro hb<;>cbv)
  all_goals exact N7
 have hb0:0<=left-es.length:=by
  (subst hO hr hF;(try simp only[nc]at*);(try simp only[ai,SS,sa,az]at*))
  rw[hs]at hb;exact hb
 clear hb;refine⟨[0,1,5],[],Int×Int,fun s=>match s with|(i,l)=>[.reg 5 (.j i),.reg 1 (.j l)],fun s=>0<=s.1/\s.1.toNat<=es.length/\0<=s.2/\s.2=left-es.length-bz (es.take s.1.toNat),fun s=>es.length-s.1.toNat,⟨(0,O.ar .sub .i64 left (O.zi (O.ln es))),?_,?_⟩,?_⟩
 ·(subst hO hr hF;(try simp only[nc]at*);(try simp only[ai,SS,sa,az]at*))
  rw[hs];exact⟨by omega,Nat.zero_le _,hb0,by simp[bz]⟩
 ·cbv
 ·rintro⟨i,l⟩ hi;replace hi:0<=i/\i.toNat<=es.length/\0<=l/\l=left-es.length-bz (es.take i.toNat):=hi;obtain⟨g0,g1,g2,g3⟩:=hi;cbv
  repeat' first|apply And.intro|(apply bi<;>intro hb<;>cbv)|(refine ab (O.ar .add .i64 i 1,F.szN [O.gs es i 0] l) ?_ ?_ ?_;focus (cbv;done))
  all_goals(subst hO hr hF;(try simp only[nc]at*);(try simp only[ai,SS,sa,az]at*))
  all_goals have hle:=bF (es:=es) (n:=i.toNat)
  all_goals have hsz:=gV (a:=[ax es i 0]) (left:=l)
  all_goals((have hsz2:0<=bJ [ax es i 0] l->bJ [ax es i 0] l=l-aw [ax es i 0]:=nT);(try have hlt:i<es.length:=by assumption);(try have he:es.getD i.toNat []=[.s 2 (ax es i 0)]:=(au hwf g0 hlt).symm);(try rw[cS (n:=es.length) g0 hlt (by omega)]);(try have hr0:Rw [tI,tI] (ax es i 0):=Rw.sub (fs:=[.sl [tI,tI]]) hw (by omega) rfl))
  all_goals exact N5
theorem rk {es:aa}(hp:Rw [.sl [tI,tI]] es/\ag es<=1048576):ap 155 [.one (.s 1 es)] [.one (.s 1 es)]:=by
 obtain⟨hw,hlim⟩:=hp;have hwf:Wf [.s 2 []] es:=hw.wf;have hlen:=cK hlim;refine cb LPostSS.B Tryz.func155 ?_
 intro O r F hO hr hF;cbv
 have h0z:b8 es [.s 2 []] 0=O.rep (O.zi (O.ln es)) [.s 2 []]:=by
  subst hO;rw[cE];rfl
 refine⟨?_,?_,[0,3,4],[3],Int×aa,fun s=>[.reg 4 (.j s.1),.leaf 3 0 ⟨0,0,none,.own (.s 1 s.2)⟩],fun s=>0<=s.1/\s.1.toNat<=es.length/\s.2=b8 es [.s 2 []] s.1.toNat,fun s=>es.length-s.1.toNat,⟨(0,O.rep (O.zi (O.ln es)) [.s 2 []]),?_,?_⟩,?_⟩
 ·subst hO;exact jG (b:=24) (show es.length*_<=_ by omega) (show es.length<=_ by omega)
 ·subst hO;exact⟨rfl,rfl⟩
 ·exact⟨by omega,Nat.zero_le _,h0z.symm⟩
 ·cbv
 ·rintro⟨i,m⟩ hi;replace hi:0<=i/\i.toNat<=es.length/\m=b8 es [.s 2 []] i.toNat:=hi;obtain⟨g0,g1,hm⟩:=hi;cbv
  repeat' first|apply And.intro|(apply bi<;>intro hb<;>cbv)|(refine ab (O.ar .add .i64 i 1,O.up (.s 1 m) [(O.ad 0 i,0)] [.s 2 (O.gs es i 0)]) ?_ ?_ ?_;focus (cbv;done))
  all_goals(subst hO hr hF;(try simp only[nc]at*);(try simp only[ai,SS,sa,az]at*);(try simp only[kU,List.length_replicate,Int.toNat_natCast]at*);(try have hlt:i<es.length:=by assumption);(try have he:es.getD i.toNat []=[.s 2 (ax es i 0)]:=(au hwf g0 hlt).symm);(try rw[cS (n:=es.length) g0 hlt (by omega)]);(try have hr0:Rw [tI,tI] (ax es i 0):=Rw.sub (fs:=[.sl [tI,tI]]) hw (by omega) rfl))
  all_goals exact N4
theorem qI {es:aa}{d:DV}(hp:d=.one (.s 1 es)/\Rw [.sl [tI,tI]] es/\ag es<=1099511627776):ap 185 [.one (.s 1 es),d] [.k true]:=by
 obtain⟨rfl,hw,hlim⟩:=hp;have hwf:Wf [.s 2 []] es:=hw.wf;have hlen:=cK hlim;refine cb LPostSS.B Tryz.func185 ?_
 intro O r F hO hr hF;cbv
 apply bi<;>intro hb<;>cbv
 ·(subst hO hr hF;(try simp only[nc]at*);(try simp only[ai,SS,sa,az]at*));exact absurd rfl hb
 ·clear hb;refine⟨[0,1,5],[],Int,fun i=>[.reg 5 (.j i)],fun i=>0<=i/\i.toNat<=es.length,fun i=>es.length-i.toNat,⟨0,?_,?_⟩,?_⟩
  ·exact⟨by omega,Nat.zero_le _⟩
  ·cbv
  ·rintro i hi;replace hi:0<=i/\i.toNat<=es.length:=hi;obtain⟨g0,g1⟩:=hi;cbv
   repeat' first|apply And.intro|(apply bi<;>intro hb<;>cbv)|(refine ab (O.ar .add .i64 i 1) ?_ ?_ ?_;focus (cbv;done))
   all_goals(subst hO hr hF;(try simp only[nc]at*);(try simp only[ai,SS,sa,az]at*);(try have hlt:i<es.length:=by assumption);(try have he:es.getD i.toNat []=[.s 2 (ax es i 0)]:=(au hwf g0 hlt).symm);(try rw[cS (n:=es.length) g0 hlt (by omega)]);(try have hr0:Rw [tI,tI] (ax es i 0):=Rw.sub (fs:=[.sl [tI,tI]]) hw (by omega) rfl))
   all_goals exact N6
theorem mP {es:aa}{k:Int}(hp:Rw [.sl [tI,tI]] es/\ag es<=1099511627776/\0<=k/\am [es] k<=1152921504606846976):dZ 192 [.one (.s 1 es),.j k] [.s 1 (ao es k)] [.j (am [es] k)]:=by
 obtain⟨hw,hlim,hk0,hkb⟩:=hp;have hwf:Wf [.s 2 []] es:=hw.wf;have hlen:=cK hlim;refine mb MPostSS.B [(0,0)] Tryz.func192 ?_
 intro O r os F hO hr hos hF;cbv
 refine⟨[0,1,5],[0],Int×Int×aa,fun s=>match s with|(i,k',cur)=>[.reg 5 (.j i),.reg 1 (.j k'),.leaf 0 0 ⟨0,0,some 0,.own (.s 1 cur)⟩],fun s=>0<=s.1/\s.1.toNat<=es.length/\s.2.1=du es k s.1.toNat/\s.2.2=dM es k s.1.toNat,fun s=>es.length-s.1.toNat,⟨(0,k,es),?_,?_⟩,?_⟩
 ·exact⟨by omega,Nat.zero_le _,bG.symm,cR.symm⟩
 ·cbv
 ·rintro⟨i,k',cur⟩ hi;replace hi:0<=i/\i.toNat<=es.length/\k'=du es k i.toNat/\cur=dM es k i.toNat:=hi;obtain⟨g0,g1,hk',hc⟩:=hi;cbv
  repeat' first|apply And.intro|(apply bi<;>intro hb<;>cbv)|(refine ab (O.ar .add .i64 i 1,F.kN [O.ps (.s 1 (cur)) [(O.ad 0 i,0)]] (k'),O.up (.s 1 (cur)) [(O.ad 0 i,0)] [.s 2 (F.mkN (O.ps (.s 1 (cur)) [(O.ad 0 i,0)]) (k'))]) ?_ ?_ ?_;focus (cbv;done))
  all_goals((try subst hos);subst hO hr hF;(try simp only[nc]at*);(try simp only[ai,SS,sa,az]at*);(try have hlt:i<es.length:=by assumption);(try have he:es.getD i.toNat []=[.s 2 (ax es i 0)]:=(au hwf g0 hlt).symm);(try have hcg:cur.getD i.toNat []=[.s 2 (ax es i 0)]:=by rw[hc,cQ g1];exact he);(try rw[cS (n:=es.length) g0 hlt (by omega)]);(try have hlt':i.toNat<es.length:=by omega);(try have hr0:Rw [tI,tI] (ax es i 0):=Rw.sub (fs:=[.sl [tI,tI]]) hw (by omega) rfl))
  all_goals exact Vy
theorem mH {ms:aa}{k:Int}(hp:∃ es,ms=ao es k/\Rw [.sl [tI,tI]] es/\ag es<=1099511627776/\0<=k/\am [ms] k<=1152921504606846976):ap 198 [.one (.s 1 ms),.j k] [.j (am [ms] k)]:=by
 obtain⟨es,hms,hw,hlim,hk0,hkb⟩:=hp;have hlen:=cK hlim;have hml:ms.length=es.length:=by rw[hms];exact b9
 have hkk:am [ms] k=am [es] k:=by rw[hms];exact jE
 have hwm:Wf [.s 2 []] ms:=by rw[hms];exact cD hw
 have hwf:Wf [.s 2 []] es:=hw.wf;have hat:∀ n,n<es.length->ms.getD n []=(d6 (es.getD n []) (du es k n)).1:=fun n hn=>by rw[hms];exact fN hn
 refine cb MPostSS.B Tryz.func198 ?_
 intro O r F hO hr hF;cbv
 refine⟨[0,1,5],[],Int×Int,fun s=>match s with|(i,k')=>[.reg 5 (.j i),.reg 1 (.j k')],fun s=>0<=s.1/\s.1.toNat<=es.length/\s.2=du es k s.1.toNat,fun s=>es.length-s.1.toNat,⟨(0,k),?_,?_⟩,?_⟩
 ·exact⟨by omega,Nat.zero_le _,bG.symm⟩
 ·cbv
 ·rintro⟨i,k'⟩ hi;replace hi:0<=i/\i.toNat<=es.length/\k'=du es k i.toNat:=hi;obtain⟨g0,g1,hk'⟩:=hi;cbv
  repeat' first|apply And.intro|(apply bi<;>intro hb<;>cbv)|(refine ab (O.ar .add .i64 i 1,F.kN [O.gs ms i 0] (k')) ?_ ?_ ?_;focus (cbv;done))
  all_goals(subst hO hr hF;(try simp only[nc]at*);(try simp only[ai,SS,sa,az]at*);(try have hltm:i<ms.length:=by assumption);(try have hlt:i<es.length:=by omega);(try have he:es.getD i.toNat []=[.s 2 (ax es i 0)]:=(au hwf g0 hlt).symm);(try rw[cS (n:=es.length) g0 hlt (by omega)]);(try have hlt':i.toNat<es.length:=by omega);(try have hr0:Rw [tI,tI] (ax es i 0):=Rw.sub (fs:=[.sl [tI,tI]]) hw (by omega) rfl);(try have hct:=cg (es:=es) (n:=i.toNat) (by omega);rw[he]at hct;simp only[cz,dz,Nat.add_zero,Nat.zero_add]at hct);(try have hks:=cF (es:=es) (k:=k) hlt';rw[he]at hks;simp only[d6,eA]at hks);(try have hem:([.s 2 (ax ms i 0)]:ay)=_:=(au hwm g0 hltm).trans (hat i.toNat hlt');rw[he]at hem;simp only[d6,eA,List.cons.injEq,L.v.injEq,Value.int.injEq,Value.bool.injEq,L.s.injEq,true_and,and_true]at hem))
  all_goals exact Vz
namespace LMail
structure aQ where
 szN:List aa->Int->Int
abbrev F0 :aQ:=⟨bJ⟩
def ct (F:aQ):CT:=fun f ds=>match f,ds with
 |125,[.one (.s 1 es),.one (.v (.int .i64 left))]=>some (fun _=>Rw [.sl [tI,tI]] es/\0<=left/\left<=1048576,[.j (F.szN [es] left)])
 |155,[.one (.s 1 es)]=>some (fun _=>Rw [.sl [tI,tI]] es/\ag es<=1048576,[.one (.s 1 es)])
 |185,[.one (.s 1 es),d]=>some (fun _=>d=.one (.s 1 es)/\Rw [.sl [tI,tI]] es/\ag es<=1099511627776,[.k true])
 |126,[.one (.s 1 es),.one (.v (.int .i64 left))]=>some (fun _=>Rw [.sl [tI]] es/\0<=left/\left<=1048576,[.j (F.szN [es] left)])
 |156,[.one (.s 1 es)]=>some (fun _=>Rw [.sl [tI]] es/\ag es<=1048576,[.one (.s 1 es)])
 |186,[.one (.s 1 es),d]=>some (fun _=>d=.one (.s 1 es)/\Rw [.sl [tI]] es/\ag es<=1099511627776,[.k true])
 |_,_=>none
theorem ah :aR (ct F0):=by
 intro f ds pre res h hp;unfold ct at h;split at h<;>cases h
 exact qY hp;exact rk hp;exact qI hp;exact gf hp;exact gg hp;exact gd hp
abbrev B :cq:=tb ah
end LMail
namespace MMail
structure aQ where
 kN:List aa->Int->Int
 mkN:aa->Int->aa
abbrev F0 :aQ:=⟨am,ao⟩
def ct (F:aQ):CT:=fun f ds=>match f,ds with
 |198,[.one (.s 1 ms),.one (.v (.int .i64 k))]=>some (fun _=>∃ es,ms=ao es k/\Rw [.sl [tI,tI]] es/\ag es<=1099511627776/\0<=k/\am [ms] k<=1152921504606846976,[.j (F.kN [ms] k)])
 |197,[.one (.s 1 ms),.one (.v (.int .i64 k))]=>some (fun _=>∃ es,ms=ao es k/\Rw [.sl [tI]] es/\ag es<=1099511627776/\0<=k/\am [ms] k<=1152921504606846976,[.j (F.kN [ms] k)])
 |_,_=>none
theorem ah :aR (ct F0):=by
 intro f ds pre res h hp;unfold ct at h;split at h<;>cases h
 exact mH hp;exact eY hp
def mt (F:aQ):MT:=fun f=>match f with
 | 192=>some fun ds=>match ds with
   |[.one (.s 1 es),.one (.v (.int .i64 k))]=>some (fun _=>Rw [.sl [tI,tI]] es/\ag es<=1099511627776/\0<=k/\am [es] k<=1152921504606846976,[.s 1 (F.mkN es k)],[.j (F.kN [es] k)])
   |_=>none
 | 191=>some fun ds=>match ds with
   |[.one (.s 1 es),.one (.v (.int .i64 k))]=>some (fun _=>Rw [.sl [tI]] es/\ag es<=1099511627776/\0<=k/\am [es] k<=1152921504606846976,[.s 1 (F.mkN es k)],[.j (F.kN [es] k)])
   |_=>none
 |_=>none
theorem cV :fZ (mt F0):=by
 intro f mk h ds pre outs res hm hp;unfold mt at h;split at h
 ·cases h;dsimp only at hm;split at hm
  ·cases hm;exact mP hp
  ·cases hm
 ·cases h;dsimp only at hm;split at hm
  ·cases hm;exact eZ hp
  ·cases hm
 ·cases h
abbrev B :cq:={Φ:=aQ,F0:=F0,ct:=ct,hc:=ah,mt:=mt,hm:=cV}
end MMail
theorem v8 {a0 a1:aa}{left:Int}(hp:Rw [.sl [tI,tI]] a0/\Rw [.sl [tI]] a1/\0<=left/\left<=1048576):ap 38 [.agg [.s 1 a0,.s 1 a1],.j left] [.j (bJ [a0,a1] left)]:=by
 obtain⟨w0,w1,h0,h1⟩:=hp;refine cb LMail.B Tryz.func38 ?_
 intro O r F hO hr hF;cbv
 repeat' first|apply And.intro|(apply bi<;>intro hb<;>cbv)
 all_goals(subst hO hr hF;(try simp only[nc]at*);(try simp only[ai,SS,sa,az]at*))
 all_goals iterate 1 (try simp(disch:=assumption) only[gU,List.cons_append,List.nil_append]at*)
 all_goals exact Tl
theorem we {a0 a1:aa}(hp:Rw [.sl [tI,tI]] a0/\Rw [.sl [tI]] a1/\aw [a0,a1]<=1048576):ap 50 [.agg [.s 1 a0,.s 1 a1]] [.agg [.s 1 a0,.s 1 a1]]:=by
 obtain⟨w0,w1,hlim⟩:=hp;simp only[aw,Nat.add_zero]at hlim;refine cb LMail.B Tryz.func50 ?_
 exact Ti
theorem vX {a0 a1:aa}{d:DV}(hp:d=.agg [.s 1 a0,.s 1 a1]/\Rw [.sl [tI,tI]] a0/\Rw [.sl [tI]] a1/\aw [a0,a1]<=1099511627776):ap 62 [.agg [.s 1 a0,.s 1 a1],d] [.k true]:=by
 obtain⟨rfl,w0,w1,hlim⟩:=hp;simp only[aw,Nat.add_zero]at hlim;refine cb LMail.B Tryz.func62 ?_
 exact Tg
theorem qP {a0 a1:aa}{k:Int}(hp:Rw [.sl [tI,tI]] a0/\Rw [.sl [tI]] a1/\aw [a0,a1]<=1099511627776/\0<=k/\am [a0,a1] k<=1152921504606846976):dZ 71 [.agg [.s 1 a0,.s 1 a1],.j k] [.s 1 (ao a0 k),.s 1 (ao a1 (am [a0] k))] [.j (am [a0,a1] k)]:=by
 obtain⟨w0,w1,hlim,hk0,hkb⟩:=hp;simp only[aw,Nat.add_zero]at hlim;have p0:am [a0] k<=am [a0,a1] k/\0<=am [a0] k:=bh (b:=[a1]) hk0;have p1:am [a0,a1] k<=am [a0,a1] k/\0<=am [a0,a1] k:=bh (b:=[]) hk0;refine mb MMail.B [(2,0),(2,1)] Tryz.func71 ?_
 exact JH
theorem qL {m0 m1:aa}{k:Int}(hp:(∃ a0,m0=ao a0 k/\Rw [.sl [tI,tI]] a0/\ag a0<=1099511627776)/\(∃ a1,m1=ao a1 (am [m0] k)/\Rw [.sl [tI]] a1/\ag a1<=1099511627776)/\0<=k/\am [m0,m1] k<=1152921504606846976):ap 80 [.agg [.s 1 m0,.s 1 m1],.j k] [.j (am [m0,m1] k)]:=by
 obtain⟨e0,e1,hk0,hkb⟩:=hp;have p0:am [m0] k<=am [m0,m1] k/\0<=am [m0] k:=bh (b:=[m1]) hk0;have p1:am [m0,m1] k<=am [m0,m1] k/\0<=am [m0,m1] k:=bh (b:=[]) hk0;refine cb MMail.B Tryz.func80 ?_
 exact SO
namespace LQuar
structure aQ where
 szN:List aa->Int->Int
abbrev F0 :aQ:=⟨bJ⟩
def ct (F:aQ):CT:=fun f ds=>match f,ds with
 |127,[.one (.s 3 es),.one (.v (.int .i64 left))]=>some (fun _=>Rw [tI,tI,tI] es/\0<=left/\left<=1048576,[.j (F.szN [es] left)])
 |157,[.one (.s 3 es)]=>some (fun _=>Rw [tI,tI,tI] es/\ag es<=1048576,[.one (.s 3 es)])
 |187,[.one (.s 3 es),d]=>some (fun _=>d=.one (.s 3 es)/\Rw [tI,tI,tI] es/\ag es<=1099511627776,[.k true])
 |_,_=>none
theorem ah :aR (ct F0):=by
 intro f ds pre res h hp;unfold ct at h;split at h<;>cases h
 exact q7 hp;exact rn hp;exact qK hp
abbrev B :cq:=tb ah
end LQuar
namespace MQuar
structure aQ where
 kN:List aa->Int->Int
 mkN:aa->Int->aa
abbrev F0 :aQ:=⟨am,ao⟩
def ct (F:aQ):CT:=fun f ds=>match f,ds with
 |199,[.one (.s 3 ms),.one (.v (.int .i64 k))]=>some (fun _=>∃ es,ms=ao es k/\Rw [tI,tI,tI] es/\ag es<=1099511627776/\0<=k/\am [ms] k<=1152921504606846976,[.j (F.kN [ms] k)])
 |_,_=>none
theorem ah :aR (ct F0):=by
 intro f ds pre res h hp;unfold ct at h;split at h<;>cases h
 exact mJ hp
def mt (F:aQ):MT:=fun f=>match f with
 | 193=>some fun ds=>match ds with
   |[.one (.s 3 es),.one (.v (.int .i64 k))]=>some (fun _=>Rw [tI,tI,tI] es/\ag es<=1099511627776/\0<=k/\am [es] k<=1152921504606846976,[.s 3 (F.mkN es k)],[.j (F.kN [es] k)])
   |_=>none
 |_=>none
theorem cV :fZ (mt F0):=by
 intro f mk h ds pre outs res hm hp;unfold mt at h;split at h
 ·cases h;dsimp only at hm;split at hm
  ·cases hm;exact mR hp
  ·cases hm
 ·cases h
abbrev B :cq:={Φ:=aQ,F0:=F0,ct:=ct,hc:=ah,mt:=mt,hm:=cV}
end MQuar
theorem wd {a0:Int}{a1:aa}{left:Int}(hp:Rw [tI,tI,tI] a1/\0<=left/\left<=1048576):ap 39 [.agg [.i a0,.s 3 a1],.j left] [.j (bJ [a1] left)]:=by
 obtain⟨w0,h0,h1⟩:=hp;refine cb LQuar.B Tryz.func39 ?_
 exact S8
theorem wj {a0:Int}{a1:aa}(hp:Rw [tI,tI,tI] a1/\aw [a1]<=1048576):ap 51 [.agg [.i a0,.s 3 a1]] [.agg [.i a0,.s 3 a1]]:=by
 obtain⟨w0,hlim⟩:=hp;simp only[aw,Nat.add_zero]at hlim;refine cb LQuar.B Tryz.func51 ?_
 exact rT
theorem v6 {a0:Int}{a1:aa}{d:DV}(hp:d=.agg [.i a0,.s 3 a1]/\Rw [tI,tI,tI] a1/\aw [a1]<=1099511627776):ap 63 [.agg [.i a0,.s 3 a1],d] [.k true]:=by
 obtain⟨rfl,w0,hlim⟩:=hp;simp only[aw,Nat.add_zero]at hlim;refine cb LQuar.B Tryz.func63 ?_
 exact rT
theorem qS {a0:Int}{a1:aa}{k:Int}(hp:Rw [tI,tI,tI] a1/\aw [a1]<=1099511627776/\0<=k/\am [a1] k<=1152921504606846976):dZ 72 [.agg [.i a0,.s 3 a1],.j k] [.s 3 (ao a1 k)] [.j (am [a1] k)]:=by
 obtain⟨w0,hlim,hk0,hkb⟩:=hp;simp only[aw,Nat.add_zero]at hlim;have p0:am [a1] k<=am [a1] k/\0<=am [a1] k:=bh (b:=[]) hk0;refine mb MQuar.B [(2,1)] Tryz.func72 ?_
 exact JK
theorem qO {m0:Int}{m1:aa}{k:Int}(hp:(∃ a1,m1=ao a1 k/\Rw [tI,tI,tI] a1/\ag a1<=1099511627776)/\0<=k/\am [m1] k<=1152921504606846976):ap 81 [.agg [.i m0,.s 3 m1],.j k] [.j (am [m1] k)]:=by
 obtain⟨e0,hk0,hkb⟩:=hp;have p0:am [m1] k<=am [m1] k/\0<=am [m1] k:=bh (b:=[]) hk0;refine cb MQuar.B Tryz.func81 ?_
 exact JI
namespace LPlan
structure aQ where
 szN:List aa->Int->Int
abbrev F0 :aQ:=⟨bJ⟩
def ct (F:aQ):CT:=fun f ds=>match f,ds with
 |123,[.one (.s 1 es),.one (.v (.int .i64 left))]=>some (fun _=>Rw [tI] es/\0<=left/\left<=1048576,[.j (F.szN [es] left)])
 |149,[.one (.s 1 es)]=>some (fun _=>Rw [tI] es/\ag es<=1048576,[.one (.s 1 es)])
 |179,[.one (.s 1 es),d]=>some (fun _=>d=.one (.s 1 es)/\Rw [tI] es/\ag es<=1099511627776,[.k true])
 |_,_=>none
theorem ah :aR (ct F0):=by
 intro f ds pre res h hp;unfold ct at h;split at h<;>cases h
 exact hD hp;exact hE hp;exact gZ hp
abbrev B :cq:=tb ah
end LPlan
namespace MPlan
structure aQ where
 kN:List aa->Int->Int
 mkN:aa->Int->aa
abbrev F0 :aQ:=⟨am,ao⟩
def ct (F:aQ):CT:=fun f ds=>match f,ds with
 |196,[.one (.s 1 ms),.one (.v (.int .i64 k))]=>some (fun _=>∃ es,ms=ao es k/\Rw [tI] es/\ag es<=1099511627776/\0<=k/\am [ms] k<=1152921504606846976,[.j (F.kN [ms] k)])
 |_,_=>none
theorem ah :aR (ct F0):=by
 intro f ds pre res h hp;unfold ct at h;split at h<;>cases h
 exact fI hp
def mt (F:aQ):MT:=fun f=>match f with
 | 190=>some fun ds=>match ds with
   |[.one (.s 1 es),.one (.v (.int .i64 k))]=>some (fun _=>Rw [tI] es/\ag es<=1099511627776/\0<=k/\am [es] k<=1152921504606846976,[.s 1 (F.mkN es k)],[.j (F.kN [es] k)])
   |_=>none
 |_=>none
theorem cV :fZ (mt F0):=by
 intro f mk h ds pre outs res hm hp;unfold mt at h;split at h
 ·cases h;dsimp only at hm;split at hm
  ·cases hm;exact fJ hp
  ·cases hm
 ·cases h
abbrev B :cq:={Φ:=aQ,F0:=F0,ct:=ct,hc:=ah,mt:=mt,hm:=cV}
end MPlan
theorem wc {a0 a1:Int}{a2:aa}{left:Int}(hp:Rw [tI] a2/\0<=left/\left<=1048576):ap 128 [.agg [.i a0,.i a1,.s 1 a2],.j left] [.j (bJ [a2] left)]:=by
 obtain⟨w0,h0,h1⟩:=hp;refine cb LPlan.B Tryz.func128 ?_
 exact S9
theorem wh {a0 a1:Int}{a2:aa}(hp:Rw [tI] a2/\aw [a2]<=1048576):ap 158 [.agg [.i a0,.i a1,.s 1 a2]] [.agg [.i a0,.i a1,.s 1 a2]]:=by
 obtain⟨w0,hlim⟩:=hp;simp only[aw,Nat.add_zero]at hlim;refine cb LPlan.B Tryz.func158 ?_
 exact rT
theorem vZ {a0 a1:Int}{a2:aa}{d:DV}(hp:d=.agg [.i a0,.i a1,.s 1 a2]/\Rw [tI] a2/\aw [a2]<=1099511627776):ap 188 [.agg [.i a0,.i a1,.s 1 a2],d] [.k true]:=by
 obtain⟨rfl,w0,hlim⟩:=hp;simp only[aw,Nat.add_zero]at hlim;refine cb LPlan.B Tryz.func188 ?_
 exact rT
theorem qR {a0 a1:Int}{a2:aa}{k:Int}(hp:Rw [tI] a2/\aw [a2]<=1099511627776/\0<=k/\am [a2] k<=1152921504606846976):dZ 194 [.agg [.i a0,.i a1,.s 1 a2],.j k] [.s 1 (ao a2 k)] [.j (am [a2] k)]:=by
 obtain⟨w0,hlim,hk0,hkb⟩:=hp;simp only[aw,Nat.add_zero]at hlim;have p0:am [a2] k<=am [a2] k/\0<=am [a2] k:=bh (b:=[]) hk0;refine mb MPlan.B [(2,2)] Tryz.func194 ?_
 exact JK
theorem qN {m0 m1:Int}{m2:aa}{k:Int}(hp:(∃ a2,m2=ao a2 k/\Rw [tI] a2/\ag a2<=1099511627776)/\0<=k/\am [m2] k<=1152921504606846976):ap 200 [.agg [.i m0,.i m1,.s 1 m2],.j k] [.j (am [m2] k)]:=by
 obtain⟨e0,hk0,hkb⟩:=hp;have p0:am [m2] k<=am [m2] k/\0<=am [m2] k:=bh (b:=[]) hk0;refine cb MPlan.B Tryz.func200 ?_
 exact JI
namespace LJob
structure aQ where
 szN:List aa->Int->Int
abbrev F0 :aQ:=⟨bJ⟩
def ct (F:aQ):CT:=fun f ds=>match f,ds with
 |128,[.agg [.v (.int .i64 a0),.v (.int .i64 a1),.s 1 a2],.one (.v (.int .i64 left))]=>some (fun _=>Rw [tI] a2/\0<=left/\left<=1048576,[.j (F.szN [a2] left)])
 |158,[.agg [.v (.int .i64 a0),.v (.int .i64 a1),.s 1 a2]]=>some (fun _=>Rw [tI] a2/\aw [a2]<=1048576,[.agg [.i a0,.i a1,.s 1 a2]])
 |188,[.agg [.v (.int .i64 a0),.v (.int .i64 a1),.s 1 a2],d]=>some (fun _=>d=.agg [.i a0,.i a1,.s 1 a2]/\Rw [tI] a2/\aw [a2]<=1099511627776,[.k true])
 |_,_=>none
theorem ah :aR (ct F0):=by
 intro f ds pre res h hp;unfold ct at h;split at h<;>cases h
 exact wc hp;exact wh hp;exact vZ hp
abbrev B :cq:=tb ah
end LJob
namespace MJob
structure aQ where
 kN:List aa->Int->Int
 mkN:aa->Int->aa
abbrev F0 :aQ:=⟨am,ao⟩
def ct (F:aQ):CT:=fun f ds=>match f,ds with
 |200,[.agg [.v (.int .i64 m0),.v (.int .i64 m1),.s 1 m2],.one (.v (.int .i64 k))]=>some (fun _=>(∃ a2,m2=ao a2 k/\Rw [tI] a2/\ag a2<=1099511627776)/\0<=k/\am [m2] k<=1152921504606846976,[.j (F.kN [m2] k)])
 |_,_=>none
theorem ah :aR (ct F0):=by
 intro f ds pre res h hp;unfold ct at h;split at h<;>cases h
 exact qN hp
def mt (F:aQ):MT:=fun f=>match f with
 | 194=>some fun ds=>match ds with
   |[.agg [.v (.int .i64 a0),.v (.int .i64 a1),.s 1 a2],.one (.v (.int .i64 k))]=>some (fun _=>Rw [tI] a2/\aw [a2]<=1099511627776/\0<=k/\am [a2] k<=1152921504606846976,[.s 1 (F.mkN a2 k)],[.j (F.kN [a2] k)])
   |_=>none
 |_=>none
theorem cV :fZ (mt F0):=by
 intro f mk h ds pre outs res hm hp;unfold mt at h;split at h
 ·cases h;dsimp only at hm;split at hm
  ·cases hm;exact qR hp
  ·cases hm
 ·cases h
abbrev B :cq:={Φ:=aQ,F0:=F0,ct:=ct,hc:=ah,mt:=mt,hm:=cV}
end MJob
theorem xU {a0 a1:Int}{a2:aa}{a3 a4 left:Int}(hp:Rw [tI] a2/\0<=left/\left<=1048576):ap 40 [.agg [.i a0,.i a1,.s 1 a2,.i a3,.i a4],.j left] [.j (bJ [a2] left)]:=by
 obtain⟨w0,h0,h1⟩:=hp;refine cb LJob.B Tryz.func40 ?_
 exact S9
theorem xV {a0 a1:Int}{a2:aa}{a3 a4:Int}(hp:Rw [tI] a2/\aw [a2]<=1048576):ap 52 [.agg [.i a0,.i a1,.s 1 a2,.i a3,.i a4]] [.agg [.i a0,.i a1,.s 1 a2,.i a3,.i a4]]:=by
 obtain⟨w0,hlim⟩:=hp;simp only[aw,Nat.add_zero]at hlim;refine cb LJob.B Tryz.func52 ?_
 exact rT
theorem xS {a0 a1:Int}{a2:aa}{a3 a4:Int}{d:DV}(hp:d=.agg [.i a0,.i a1,.s 1 a2,.i a3,.i a4]/\Rw [tI] a2/\aw [a2]<=1099511627776):ap 64 [.agg [.i a0,.i a1,.s 1 a2,.i a3,.i a4],d] [.k true]:=by
 obtain⟨rfl,w0,hlim⟩:=hp;simp only[aw,Nat.add_zero]at hlim;refine cb LJob.B Tryz.func64 ?_
 exact rT
theorem tc {a0 a1:Int}{a2:aa}{a3 a4 k:Int}(hp:Rw [tI] a2/\aw [a2]<=1099511627776/\0<=k/\am [a2] k<=1152921504606846976):dZ 73 [.agg [.i a0,.i a1,.s 1 a2,.i a3,.i a4],.j k] [.s 1 (ao a2 k)] [.j (am [a2] k)]:=by
 obtain⟨w0,hlim,hk0,hkb⟩:=hp;simp only[aw,Nat.add_zero]at hlim;have p0:am [a2] k<=am [a2] k/\0<=am [a2] k:=bh (b:=[]) hk0;refine mb MJob.B [(2,2)] Tryz.func73 ?_
 exact JK
theorem ta {m0 m1:Int}{m2:aa}{m3 m4 k:Int}(hp:(∃ a2,m2=ao a2 k/\Rw [tI] a2/\ag a2<=1099511627776)/\0<=k/\am [m2] k<=1152921504606846976):ap 82 [.agg [.i m0,.i m1,.s 1 m2,.i m3,.i m4],.j k] [.j (am [m2] k)]:=by
 obtain⟨e0,hk0,hkb⟩:=hp;have p0:am [m2] k<=am [m2] k/\0<=am [m2] k:=bh (b:=[]) hk0;refine cb MJob.B Tryz.func82 ?_
 exact JI
end Go.V