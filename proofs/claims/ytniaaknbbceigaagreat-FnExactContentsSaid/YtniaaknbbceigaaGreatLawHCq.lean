/- Contracts. -/
import Derived.Test.YtniaaknbbceigaaGreatLawHAq
import Derived.Test.YtniaaknbbceigaaGreatLawHEq
set_option linter.all false
namespace Go.V
open Go Go.Proofs
set_option maxRecDepth 1000000
set_option maxHeartbeats 8000000
namespace LCache
structure av where
 szN:List aa->Int->Int
abbrev F0 :av:=⟨bi⟩
def ct (F:av):CT:=fun f ds=>match f,ds with
 |115,[.one (.s 1 es),.one (.v (.int .i64 left))]=>some (fun _=>Rw [.sl [tI]] es/\0<=left/\left<=1048576,[.j (F.szN [es] left)])
 |139,[.one (.s 1 es)]=>some (fun _=>Rw [.sl [tI]] es/\ak es<=1048576,[.one (.s 1 es)])
 |163,[.one (.s 1 es),d]=>some (fun _=>d=.one (.s 1 es)/\Rw [.sl [tI]] es/\ak es<=1099511627776,[.k true])
 |_,_=>none
theorem ah :aO (ct F0):=by
 intro f ds pre res h hp;unfold ct at h;split at h<;>cases h
 exact gq hp;exact gr hp;exact gp hp
abbrev B :ce:=tb ah
end LCache
theorem sF {a0:aa}{left:Int}(hp:Rw [.sl [tI]] a0/\0<=left/\left<=1048576):ap 113 [.agg [.s 1 a0],.j left] [.j (bi [a0] left)]:=by
 obtain⟨w0,h0,h1⟩:=hp;refine cb LCache.B Tryz.func113 ?_
 exact I3
theorem sK {a0:aa}(hp:Rw [.sl [tI]] a0/\ao [a0]<=1048576):ap 137 [.agg [.s 1 a0]] [.agg [.s 1 a0]]:=by
 obtain⟨w0,hlim⟩:=hp;simp only[ao,Nat.add_zero]at hlim;refine cb LCache.B Tryz.func137 ?_
 exact mh
theorem so {a0:aa}{d:DV}(hp:d=.agg [.s 1 a0]/\Rw [.sl [tI]] a0/\ao [a0]<=1099511627776):ap 161 [.agg [.s 1 a0],d] [.k true]:=by
 obtain⟨rfl,w0,hlim⟩:=hp;simp only[ao,Nat.add_zero]at hlim;refine cb LCache.B Tryz.func161 ?_
 exact mh
namespace LCacheS
structure av where
 szN:List aa->Int->Int
abbrev F0 :av:=⟨bi⟩
def ct (F:av):CT:=fun f ds=>match f,ds with
 |113,[.agg [.s 1 a0],.one (.v (.int .i64 left))]=>some (fun _=>Rw [.sl [tI]] a0/\0<=left/\left<=1048576,[.j (F.szN [a0] left)])
 |137,[.agg [.s 1 a0]]=>some (fun _=>Rw [.sl [tI]] a0/\ao [a0]<=1048576,[.agg [.s 1 a0]])
 |161,[.agg [.s 1 a0],d]=>some (fun _=>d=.agg [.s 1 a0]/\Rw [.sl [tI]] a0/\ao [a0]<=1099511627776,[.k true])
 |_,_=>none
theorem ah :aO (ct F0):=by
 intro f ds pre res h hp;unfold ct at h;split at h<;>cases h
 exact sF hp;exact sK hp;exact so hp
abbrev B :ce:=tb ah
end LCacheS
namespace MCacheS
structure av where
 kN:List aa->Int->Int
 mkN:aa->Int->aa
abbrev F0 :av:=⟨bc,bV⟩
def mt (F:av):MT:=fun f=>match f with
 | 192=>some fun ds=>match ds with
   |[.one (.s 1 es),.one (.v (.int .i64 k))]=>some (fun _=>Rw [.sl [tI]] es/\ak es<=1099511627776/\0<=k/\bc [es] k<=1152921504606846976,[.s 1 (F.mkN es k)],[.j (F.kN [es] k)])
   |_=>none
 |_=>none
theorem cQ :fQ (mt F0):=by
 intro f mk h ds pre outs res hm hp;unfold mt at h;split at h
 ·cases h;dsimp only at hm;split at hm
  ·cases hm;exact eX hp
  ·cases hm
 ·cases h
abbrev B :ce:={Φ:=av,F0:=F0,mt:=mt,hm:=cQ}
end MCacheS
theorem qy {es:aa}{left:Int}(hp:Rw [.sl [.sl [tI]]] es/\0<=left/\left<=1048576):ap 40 [.one (.s 1 es),.j left] [.j (bi [es] left)]:=by
 obtain⟨hw,h0,h1⟩:=hp;have hwf:Wf [.s 1 []] es:=hw.wf;have hm:=hw.1;unfold maxLen at hm;have hs:bu .sub .i64 left es.length=left-es.length:=cL (by omega);have hcE:ak es=es.length+bA es:=rfl;have hn:bi [es] left=if left<ak es then-1 else left-ak es:=by unfold bi;rw[cE]
 refine cb LCacheS.B Tryz.func40 ?_
 intro O r F hO hr hF;cbv
 apply be<;>intro hb<;>cbv
 ·repeat' first|apply And.intro|(apply be<;>intro hb<;>cbv)
  all_goals exact I6
 have hb0:0<=left-es.length:=by
  (subst hO hr hF;(try simp only[nc]at*);(try simp only[ai,SS,sa,az]at*))
  rw[hs]at hb;exact hb
 clear hb;refine⟨[0,1,5],[],Int×Int,fun s=>match s with|(i,l)=>[.reg 5 (.j i),.reg 1 (.j l)],fun s=>0<=s.1/\s.1.toNat<=es.length/\0<=s.2/\s.2=left-es.length-bA (es.take s.1.toNat),fun s=>es.length-s.1.toNat,⟨(0,O.ar .sub .i64 left (O.zi (O.ln es))),?_,?_⟩,?_⟩
 ·(subst hO hr hF;(try simp only[nc]at*);(try simp only[ai,SS,sa,az]at*))
  rw[hs];exact⟨by omega,Nat.zero_le _,hb0,by simp[bA]⟩
 ·cbv
 ·rintro⟨i,l⟩ hi;replace hi:0<=i/\i.toNat<=es.length/\0<=l/\l=left-es.length-bA (es.take i.toNat):=hi;obtain⟨g0,g1,g2,g3⟩:=hi;cbv
  repeat' first|apply And.intro|(apply be<;>intro hb<;>cbv)|(refine ab (O.ar .add .i64 i 1,F.szN [O.gs es i 0] l) ?_ ?_ ?_;focus (cbv;done))
  all_goals(subst hO hr hF;(try simp only[nc]at*);(try simp only[ai,SS,sa,az]at*))
  all_goals have hsz:=dB (a:=[ax es i 0]) (left:=l)
  all_goals((have hsz2:0<=bi [ax es i 0] l->bi [ax es i 0] l=l-ao [ax es i 0]:=lq);(try have hlt:i<es.length:=by assumption);(try have he:es.getD i.toNat []=[.s 1 (ax es i 0)]:=(aw hwf g0 hlt).symm);(try rw[ee (n:=es.length) g0 hlt (by omega)]);(try have hr0:Rw [.sl [tI]] (ax es i 0):=Rw.sub (fs:=[.sl [.sl [tI]]]) hw (by omega) rfl))
  all_goals exact TL
theorem qI {es:aa}(hp:Rw [.sl [.sl [tI]]] es/\ak es<=1048576):ap 51 [.one (.s 1 es)] [.one (.s 1 es)]:=by
 obtain⟨hw,hlim⟩:=hp;have hwf:Wf [.s 1 []] es:=hw.wf;have hlen:=dA hlim;refine cb LCacheS.B Tryz.func51 ?_
 intro O r F hO hr hF;cbv
 have h0z:bO es [.s 1 []] 0=O.rep (O.zi (O.ln es)) [.s 1 []]:=by
  subst hO;rw[cv];rfl
 refine⟨?_,?_,[0,3,4],[3],Int×aa,fun s=>[.reg 4 (.j s.1),.leaf 3 0 ⟨0,0,none,.own (.s 1 s.2)⟩],fun s=>0<=s.1/\s.1.toNat<=es.length/\s.2=bO es [.s 1 []] s.1.toNat,fun s=>es.length-s.1.toNat,⟨(0,O.rep (O.zi (O.ln es)) [.s 1 []]),?_,?_⟩,?_⟩
 ·subst hO;exact iE (b:=24) (show es.length*_<=_ by omega) (show es.length<=_ by omega)
 ·subst hO;exact⟨rfl,rfl⟩
 ·exact⟨by omega,Nat.zero_le _,h0z.symm⟩
 ·cbv
 ·rintro⟨i,m⟩ hi;replace hi:0<=i/\i.toNat<=es.length/\m=bO es [.s 1 []] i.toNat:=hi;obtain⟨g0,g1,hm⟩:=hi;cbv
  repeat' first|apply And.intro|(apply be<;>intro hb<;>cbv)|(refine ab (O.ar .add .i64 i 1,O.up (.s 1 m) [(O.ad 0 i,0)] [.s 1 (O.gs es i 0)]) ?_ ?_ ?_;focus (cbv;done))
  all_goals(subst hO hr hF;(try simp only[nc]at*);(try simp only[ai,SS,sa,az]at*);(try simp only[l9,List.length_replicate,Int.toNat_natCast]at*);(try have hlt:i<es.length:=by assumption);(try have he:es.getD i.toNat []=[.s 1 (ax es i 0)]:=(aw hwf g0 hlt).symm);(try rw[ee (n:=es.length) g0 hlt (by omega)]);(try have hr0:Rw [.sl [tI]] (ax es i 0):=Rw.sub (fs:=[.sl [.sl [tI]]]) hw (by omega) rfl))
  all_goals exact TK
theorem qf {es:aa}{d:DV}(hp:d=.one (.s 1 es)/\Rw [.sl [.sl [tI]]] es/\ak es<=1099511627776):ap 62 [.one (.s 1 es),d] [.k true]:=by
 obtain⟨rfl,hw,hlim⟩:=hp;have hwf:Wf [.s 1 []] es:=hw.wf;have hlen:=dA hlim;refine cb LCacheS.B Tryz.func62 ?_
 intro O r F hO hr hF;cbv
 apply be<;>intro hb<;>cbv
 ·(subst hO hr hF;(try simp only[nc]at*);(try simp only[ai,SS,sa,az]at*));exact absurd rfl hb
 ·clear hb;refine⟨[0,1,5],[],Int,fun i=>[.reg 5 (.j i)],fun i=>0<=i/\i.toNat<=es.length,fun i=>es.length-i.toNat,⟨0,?_,?_⟩,?_⟩
  ·exact⟨by omega,Nat.zero_le _⟩
  ·cbv
  ·rintro i hi;replace hi:0<=i/\i.toNat<=es.length:=hi;obtain⟨g0,g1⟩:=hi;cbv
   repeat' first|apply And.intro|(apply be<;>intro hb<;>cbv)|(refine ab (O.ar .add .i64 i 1) ?_ ?_ ?_;focus (cbv;done))
   all_goals(subst hO hr hF;(try simp only[nc]at*);(try simp only[ai,SS,sa,az]at*);(try have hlt:i<es.length:=by assumption);(try have he:es.getD i.toNat []=[.s 1 (ax es i 0)]:=(aw hwf g0 hlt).symm);(try rw[ee (n:=es.length) g0 hlt (by omega)]);(try have hr0:Rw [.sl [tI]] (ax es i 0):=Rw.sub (fs:=[.sl [.sl [tI]]]) hw (by omega) rfl))
   all_goals exact Nq
theorem mC {es:aa}{k:Int}(hp:Rw [.sl [.sl [tI]]] es/\ak es<=1099511627776/\0<=k/\bc [es] k<=1152921504606846976):d5 107 [.one (.s 1 es),.j k] [.s 1 (bV es k)] [.j (bc [es] k)]:=by
 obtain⟨hw,hlim,hk0,hkb⟩:=hp;have hwf:Wf [.s 1 []] es:=hw.wf;have hlen:=dA hlim;refine mb MCacheS.B [(0,0)] Tryz.func107 ?_
 intro O r os F hO hr hos hF;cbv
 refine⟨[0,1,5],[0],Int×Int×aa,fun s=>match s with|(i,k',cur)=>[.reg 5 (.j i),.reg 1 (.j k'),.leaf 0 0 ⟨0,0,some 0,.own (.s 1 cur)⟩],fun s=>0<=s.1/\s.1.toNat<=es.length/\s.2.1=gX es k s.1.toNat/\s.2.2=dM es k s.1.toNat,fun s=>es.length-s.1.toNat,⟨(0,k,es),?_,?_⟩,?_⟩
 ·exact⟨by omega,Nat.zero_le _,cC.symm,da.symm⟩
 ·cbv
 ·rintro⟨i,k',cur⟩ hi;replace hi:0<=i/\i.toNat<=es.length/\k'=gX es k i.toNat/\cur=dM es k i.toNat:=hi;obtain⟨g0,g1,hk',hc⟩:=hi;cbv
  repeat' first|apply And.intro|(apply be<;>intro hb<;>cbv)|(refine ab (O.ar .add .i64 i 1,F.kN [O.ps (.s 1 (cur)) [(O.ad 0 i,0)]] (k'),O.up (.s 1 (cur)) [(O.ad 0 i,0)] [.s 1 (F.mkN (O.ps (.s 1 (cur)) [(O.ad 0 i,0)]) (k'))]) ?_ ?_ ?_;focus (cbv;done))
  all_goals((try subst hos);subst hO hr hF;(try simp only[nc]at*);(try simp only[ai,SS,sa,az]at*);(try have hlt:i<es.length:=by assumption);(try have he:es.getD i.toNat []=[.s 1 (ax es i 0)]:=(aw hwf g0 hlt).symm);(try have hcg:cur.getD i.toNat []=[.s 1 (ax es i 0)]:=by rw[hc,cZ g1];exact he);(try rw[ee (n:=es.length) g0 hlt (by omega)]);(try have hlt':i.toNat<es.length:=by omega);(try have hr0:Rw [.sl [tI]] (ax es i 0):=Rw.sub (fs:=[.sl [.sl [tI]]]) hw (by omega) rfl))
  all_goals exact TH
namespace LPostSS
structure av where
 szN:List aa->Int->Int
abbrev F0 :av:=⟨bi⟩
def ct (F:av):CT:=fun f ds=>match f,ds with
 |198,[.one (.s 2 es),.one (.v (.int .i64 left))]=>some (fun _=>Rw [tI,tI] es/\0<=left/\left<=1048576,[.j (F.szN [es] left)])
 |212,[.one (.s 2 es)]=>some (fun _=>Rw [tI,tI] es/\ak es<=1048576,[.one (.s 2 es)])
 |231,[.one (.s 2 es),d]=>some (fun _=>d=.one (.s 2 es)/\Rw [tI,tI] es/\ak es<=1099511627776,[.k true])
 |_,_=>none
theorem ah :aO (ct F0):=by
 intro f ds pre res h hp;unfold ct at h;split at h<;>cases h
 exact sG hp;exact sN hp;exact su hp
abbrev B :ce:=tb ah
end LPostSS
namespace MPostSS
structure av where
 kN:List aa->Int->Int
 mkN:aa->Int->aa
abbrev F0 :av:=⟨bc,bV⟩
def mt (F:av):MT:=fun f=>match f with
 | 241=>some fun ds=>match ds with
   |[.one (.s 2 es),.one (.v (.int .i64 k))]=>some (fun _=>Rw [tI,tI] es/\ak es<=1099511627776/\0<=k/\bc [es] k<=1152921504606846976,[.s 2 (F.mkN es k)],[.j (F.kN [es] k)])
   |_=>none
 |_=>none
theorem cQ :fQ (mt F0):=by
 intro f mk h ds pre outs res hm hp;unfold mt at h;split at h
 ·cases h;dsimp only at hm;split at hm
  ·cases hm;exact od hp
  ·cases hm
 ·cases h
abbrev B :ce:={Φ:=av,F0:=F0,mt:=mt,hm:=cQ}
end MPostSS
theorem qE {es:aa}{left:Int}(hp:Rw [.sl [tI,tI]] es/\0<=left/\left<=1048576):ap 114 [.one (.s 1 es),.j left] [.j (bi [es] left)]:=by
 obtain⟨hw,h0,h1⟩:=hp;have hwf:Wf [.s 2 []] es:=hw.wf;have hm:=hw.1;unfold maxLen at hm;have hs:bu .sub .i64 left es.length=left-es.length:=cL (by omega);have hcE:ak es=es.length+bA es:=rfl;have hn:bi [es] left=if left<ak es then-1 else left-ak es:=by unfold bi;rw[cE]
 refine cb LPostSS.B Tryz.func114 ?_
 intro O r F hO hr hF;cbv
 apply be<;>intro hb<;>cbv
 ·repeat' first|apply And.intro|(apply be<;>intro hb<;>cbv)
  all_goals exact I6
 have hb0:0<=left-es.length:=by
  (subst hO hr hF;(try simp only[nc]at*);(try simp only[ai,SS,sa,az]at*))
  rw[hs]at hb;exact hb
 clear hb;refine⟨[0,1,5],[],Int×Int,fun s=>match s with|(i,l)=>[.reg 5 (.j i),.reg 1 (.j l)],fun s=>0<=s.1/\s.1.toNat<=es.length/\0<=s.2/\s.2=left-es.length-bA (es.take s.1.toNat),fun s=>es.length-s.1.toNat,⟨(0,O.ar .sub .i64 left (O.zi (O.ln es))),?_,?_⟩,?_⟩
 ·(subst hO hr hF;(try simp only[nc]at*);(try simp only[ai,SS,sa,az]at*))
  rw[hs];exact⟨by omega,Nat.zero_le _,hb0,by simp[bA]⟩
 ·cbv
 ·rintro⟨i,l⟩ hi;replace hi:0<=i/\i.toNat<=es.length/\0<=l/\l=left-es.length-bA (es.take i.toNat):=hi;obtain⟨g0,g1,g2,g3⟩:=hi;cbv
  repeat' first|apply And.intro|(apply be<;>intro hb<;>cbv)|(refine ab (O.ar .add .i64 i 1,F.szN [O.gs es i 0] l) ?_ ?_ ?_;focus (cbv;done))
  all_goals(subst hO hr hF;(try simp only[nc]at*);(try simp only[ai,SS,sa,az]at*))
  all_goals have hsz:=dB (a:=[ax es i 0]) (left:=l)
  all_goals((have hsz2:0<=bi [ax es i 0] l->bi [ax es i 0] l=l-ao [ax es i 0]:=lq);(try have hlt:i<es.length:=by assumption);(try have he:es.getD i.toNat []=[.s 2 (ax es i 0)]:=(aw hwf g0 hlt).symm);(try rw[ee (n:=es.length) g0 hlt (by omega)]);(try have hr0:Rw [tI,tI] (ax es i 0):=Rw.sub (fs:=[.sl [tI,tI]]) hw (by omega) rfl))
  all_goals exact TL
theorem qN {es:aa}(hp:Rw [.sl [tI,tI]] es/\ak es<=1048576):ap 138 [.one (.s 1 es)] [.one (.s 1 es)]:=by
 obtain⟨hw,hlim⟩:=hp;have hwf:Wf [.s 2 []] es:=hw.wf;have hlen:=dA hlim;refine cb LPostSS.B Tryz.func138 ?_
 intro O r F hO hr hF;cbv
 have h0z:bO es [.s 2 []] 0=O.rep (O.zi (O.ln es)) [.s 2 []]:=by
  subst hO;rw[cv];rfl
 refine⟨?_,?_,[0,3,4],[3],Int×aa,fun s=>[.reg 4 (.j s.1),.leaf 3 0 ⟨0,0,none,.own (.s 1 s.2)⟩],fun s=>0<=s.1/\s.1.toNat<=es.length/\s.2=bO es [.s 2 []] s.1.toNat,fun s=>es.length-s.1.toNat,⟨(0,O.rep (O.zi (O.ln es)) [.s 2 []]),?_,?_⟩,?_⟩
 ·subst hO;exact iE (b:=24) (show es.length*_<=_ by omega) (show es.length<=_ by omega)
 ·subst hO;exact⟨rfl,rfl⟩
 ·exact⟨by omega,Nat.zero_le _,h0z.symm⟩
 ·cbv
 ·rintro⟨i,m⟩ hi;replace hi:0<=i/\i.toNat<=es.length/\m=bO es [.s 2 []] i.toNat:=hi;obtain⟨g0,g1,hm⟩:=hi;cbv
  repeat' first|apply And.intro|(apply be<;>intro hb<;>cbv)|(refine ab (O.ar .add .i64 i 1,O.up (.s 1 m) [(O.ad 0 i,0)] [.s 2 (O.gs es i 0)]) ?_ ?_ ?_;focus (cbv;done))
  all_goals(subst hO hr hF;(try simp only[nc]at*);(try simp only[ai,SS,sa,az]at*);(try simp only[l9,List.length_replicate,Int.toNat_natCast]at*);(try have hlt:i<es.length:=by assumption);(try have he:es.getD i.toNat []=[.s 2 (ax es i 0)]:=(aw hwf g0 hlt).symm);(try rw[ee (n:=es.length) g0 hlt (by omega)]);(try have hr0:Rw [tI,tI] (ax es i 0):=Rw.sub (fs:=[.sl [tI,tI]]) hw (by omega) rfl))
  all_goals exact TK
theorem qk {es:aa}{d:DV}(hp:d=.one (.s 1 es)/\Rw [.sl [tI,tI]] es/\ak es<=1099511627776):ap 162 [.one (.s 1 es),d] [.k true]:=by
 obtain⟨rfl,hw,hlim⟩:=hp;have hwf:Wf [.s 2 []] es:=hw.wf;have hlen:=dA hlim;refine cb LPostSS.B Tryz.func162 ?_
 intro O r F hO hr hF;cbv
 apply be<;>intro hb<;>cbv
 ·(subst hO hr hF;(try simp only[nc]at*);(try simp only[ai,SS,sa,az]at*));exact absurd rfl hb
 ·clear hb;refine⟨[0,1,5],[],Int,fun i=>[.reg 5 (.j i)],fun i=>0<=i/\i.toNat<=es.length,fun i=>es.length-i.toNat,⟨0,?_,?_⟩,?_⟩
  ·exact⟨by omega,Nat.zero_le _⟩
  ·cbv
  ·rintro i hi;replace hi:0<=i/\i.toNat<=es.length:=hi;obtain⟨g0,g1⟩:=hi;cbv
   repeat' first|apply And.intro|(apply be<;>intro hb<;>cbv)|(refine ab (O.ar .add .i64 i 1) ?_ ?_ ?_;focus (cbv;done))
   all_goals(subst hO hr hF;(try simp only[nc]at*);(try simp only[ai,SS,sa,az]at*);(try have hlt:i<es.length:=by assumption);(try have he:es.getD i.toNat []=[.s 2 (ax es i 0)]:=(aw hwf g0 hlt).symm);(try rw[ee (n:=es.length) g0 hlt (by omega)]);(try have hr0:Rw [tI,tI] (ax es i 0):=Rw.sub (fs:=[.sl [tI,tI]]) hw (by omega) rfl))
   all_goals exact Nq
theorem mH {es:aa}{k:Int}(hp:Rw [.sl [tI,tI]] es/\ak es<=1099511627776/\0<=k/\bc [es] k<=1152921504606846976):d5 193 [.one (.s 1 es),.j k] [.s 1 (bV es k)] [.j (bc [es] k)]:=by
 obtain⟨hw,hlim,hk0,hkb⟩:=hp;have hwf:Wf [.s 2 []] es:=hw.wf;have hlen:=dA hlim;refine mb MPostSS.B [(0,0)] Tryz.func193 ?_
 intro O r os F hO hr hos hF;cbv
 refine⟨[0,1,5],[0],Int×Int×aa,fun s=>match s with|(i,k',cur)=>[.reg 5 (.j i),.reg 1 (.j k'),.leaf 0 0 ⟨0,0,some 0,.own (.s 1 cur)⟩],fun s=>0<=s.1/\s.1.toNat<=es.length/\s.2.1=gX es k s.1.toNat/\s.2.2=dM es k s.1.toNat,fun s=>es.length-s.1.toNat,⟨(0,k,es),?_,?_⟩,?_⟩
 ·exact⟨by omega,Nat.zero_le _,cC.symm,da.symm⟩
 ·cbv
 ·rintro⟨i,k',cur⟩ hi;replace hi:0<=i/\i.toNat<=es.length/\k'=gX es k i.toNat/\cur=dM es k i.toNat:=hi;obtain⟨g0,g1,hk',hc⟩:=hi;cbv
  repeat' first|apply And.intro|(apply be<;>intro hb<;>cbv)|(refine ab (O.ar .add .i64 i 1,F.kN [O.ps (.s 1 (cur)) [(O.ad 0 i,0)]] (k'),O.up (.s 1 (cur)) [(O.ad 0 i,0)] [.s 2 (F.mkN (O.ps (.s 1 (cur)) [(O.ad 0 i,0)]) (k'))]) ?_ ?_ ?_;focus (cbv;done))
  all_goals((try subst hos);subst hO hr hF;(try simp only[nc]at*);(try simp only[ai,SS,sa,az]at*);(try have hlt:i<es.length:=by assumption);(try have he:es.getD i.toNat []=[.s 2 (ax es i 0)]:=(aw hwf g0 hlt).symm);(try have hcg:cur.getD i.toNat []=[.s 2 (ax es i 0)]:=by rw[hc,cZ g1];exact he);(try rw[ee (n:=es.length) g0 hlt (by omega)]);(try have hlt':i.toNat<es.length:=by omega);(try have hr0:Rw [tI,tI] (ax es i 0):=Rw.sub (fs:=[.sl [tI,tI]]) hw (by omega) rfl))
  all_goals exact TH
namespace LMail
structure av where
 szN:List aa->Int->Int
abbrev F0 :av:=⟨bi⟩
def ct (F:av):CT:=fun f ds=>match f,ds with
 |114,[.one (.s 1 es),.one (.v (.int .i64 left))]=>some (fun _=>Rw [.sl [tI,tI]] es/\0<=left/\left<=1048576,[.j (F.szN [es] left)])
 |138,[.one (.s 1 es)]=>some (fun _=>Rw [.sl [tI,tI]] es/\ak es<=1048576,[.one (.s 1 es)])
 |162,[.one (.s 1 es),d]=>some (fun _=>d=.one (.s 1 es)/\Rw [.sl [tI,tI]] es/\ak es<=1099511627776,[.k true])
 |115,[.one (.s 1 es),.one (.v (.int .i64 left))]=>some (fun _=>Rw [.sl [tI]] es/\0<=left/\left<=1048576,[.j (F.szN [es] left)])
 |139,[.one (.s 1 es)]=>some (fun _=>Rw [.sl [tI]] es/\ak es<=1048576,[.one (.s 1 es)])
 |163,[.one (.s 1 es),d]=>some (fun _=>d=.one (.s 1 es)/\Rw [.sl [tI]] es/\ak es<=1099511627776,[.k true])
 |_,_=>none
theorem ah :aO (ct F0):=by
 intro f ds pre res h hp;unfold ct at h;split at h<;>cases h
 exact qE hp;exact qN hp;exact qk hp;exact gq hp;exact gr hp;exact gp hp
abbrev B :ce:=tb ah
end LMail
namespace MMail
structure av where
 kN:List aa->Int->Int
 mkN:aa->Int->aa
abbrev F0 :av:=⟨bc,bV⟩
def mt (F:av):MT:=fun f=>match f with
 | 193=>some fun ds=>match ds with
   |[.one (.s 1 es),.one (.v (.int .i64 k))]=>some (fun _=>Rw [.sl [tI,tI]] es/\ak es<=1099511627776/\0<=k/\bc [es] k<=1152921504606846976,[.s 1 (F.mkN es k)],[.j (F.kN [es] k)])
   |_=>none
 | 192=>some fun ds=>match ds with
   |[.one (.s 1 es),.one (.v (.int .i64 k))]=>some (fun _=>Rw [.sl [tI]] es/\ak es<=1099511627776/\0<=k/\bc [es] k<=1152921504606846976,[.s 1 (F.mkN es k)],[.j (F.kN [es] k)])
   |_=>none
 |_=>none
theorem cQ :fQ (mt F0):=by
 intro f mk h ds pre outs res hm hp;unfold mt at h;split at h
 ·cases h;dsimp only at hm;split at hm
  ·cases hm;exact mH hp
  ·cases hm
 ·cases h;dsimp only at hm;split at hm
  ·cases hm;exact eX hp
  ·cases hm
 ·cases h
abbrev B :ce:={Φ:=av,F0:=F0,mt:=mt,hm:=cQ}
end MMail
theorem u7 {a0 a1:aa}{left:Int}(hp:Rw [.sl [tI,tI]] a0/\Rw [.sl [tI]] a1/\0<=left/\left<=1048576):ap 41 [.agg [.s 1 a0,.s 1 a1],.j left] [.j (bi [a0,a1] left)]:=by
 obtain⟨w0,w1,h0,h1⟩:=hp;refine cb LMail.B Tryz.func41 ?_
 intro O r F hO hr hF;cbv
 repeat' first|apply And.intro|(apply be<;>intro hb<;>cbv)
 all_goals(subst hO hr hF;(try simp only[nc]at*);(try simp only[ai,SS,sa,az]at*))
 all_goals iterate 1 (try simp(disch:=assumption) only[hJ,List.cons_append,List.nil_append]at*)
 all_goals exact Ry
theorem ve {a0 a1:aa}(hp:Rw [.sl [tI,tI]] a0/\Rw [.sl [tI]] a1/\ao [a0,a1]<=1048576):ap 52 [.agg [.s 1 a0,.s 1 a1]] [.agg [.s 1 a0,.s 1 a1]]:=by
 obtain⟨w0,w1,hlim⟩:=hp;simp only[ao,Nat.add_zero]at hlim;refine cb LMail.B Tryz.func52 ?_
 exact Rv
theorem uV {a0 a1:aa}{d:DV}(hp:d=.agg [.s 1 a0,.s 1 a1]/\Rw [.sl [tI,tI]] a0/\Rw [.sl [tI]] a1/\ao [a0,a1]<=1099511627776):ap 63 [.agg [.s 1 a0,.s 1 a1],d] [.k true]:=by
 obtain⟨rfl,w0,w1,hlim⟩:=hp;simp only[ao,Nat.add_zero]at hlim;refine cb LMail.B Tryz.func63 ?_
 exact Ru
theorem qq {a0 a1:aa}{k:Int}(hp:Rw [.sl [tI,tI]] a0/\Rw [.sl [tI]] a1/\ao [a0,a1]<=1099511627776/\0<=k/\bc [a0,a1] k<=1152921504606846976):d5 108 [.agg [.s 1 a0,.s 1 a1],.j k] [.s 1 (bV a0 k),.s 1 (bV a1 (bc [a0] k))] [.j (bc [a0,a1] k)]:=by
 obtain⟨w0,w1,hlim,hk0,hkb⟩:=hp;simp only[ao,Nat.add_zero]at hlim;have p0:bc [a0] k<=bc [a0,a1] k/\0<=bc [a0] k:=cn (b:=[a1]) hk0;have p1:bc [a0,a1] k<=bc [a0,a1] k/\0<=bc [a0,a1] k:=cn (b:=[]) hk0;refine mb MMail.B [(2,0),(2,1)] Tryz.func108 ?_
 exact RL
namespace LQuar
structure av where
 szN:List aa->Int->Int
abbrev F0 :av:=⟨bi⟩
def ct (F:av):CT:=fun f ds=>match f,ds with
 |116,[.one (.s 3 es),.one (.v (.int .i64 left))]=>some (fun _=>Rw [tI,tI,tI] es/\0<=left/\left<=1048576,[.j (F.szN [es] left)])
 |140,[.one (.s 3 es)]=>some (fun _=>Rw [tI,tI,tI] es/\ak es<=1048576,[.one (.s 3 es)])
 |164,[.one (.s 3 es),d]=>some (fun _=>d=.one (.s 3 es)/\Rw [tI,tI,tI] es/\ak es<=1099511627776,[.k true])
 |_,_=>none
theorem ah :aO (ct F0):=by
 intro f ds pre res h hp;unfold ct at h;split at h<;>cases h
 exact qH hp;exact qQ hp;exact qo hp
abbrev B :ce:=tb ah
end LQuar
namespace MQuar
structure av where
 kN:List aa->Int->Int
 mkN:aa->Int->aa
abbrev F0 :av:=⟨bc,bV⟩
def mt (F:av):MT:=fun f=>match f with
 | 194=>some fun ds=>match ds with
   |[.one (.s 3 es),.one (.v (.int .i64 k))]=>some (fun _=>Rw [tI,tI,tI] es/\ak es<=1099511627776/\0<=k/\bc [es] k<=1152921504606846976,[.s 3 (F.mkN es k)],[.j (F.kN [es] k)])
   |_=>none
 |_=>none
theorem cQ :fQ (mt F0):=by
 intro f mk h ds pre outs res hm hp;unfold mt at h;split at h
 ·cases h;dsimp only at hm;split at hm
  ·cases hm;exact mJ hp
  ·cases hm
 ·cases h
abbrev B :ce:={Φ:=av,F0:=F0,mt:=mt,hm:=cQ}
end MQuar
theorem vd {a0:Int}{a1:aa}{left:Int}(hp:Rw [tI,tI,tI] a1/\0<=left/\left<=1048576):ap 42 [.agg [.i a0,.s 3 a1],.j left] [.j (bi [a1] left)]:=by
 obtain⟨w0,h0,h1⟩:=hp;refine cb LQuar.B Tryz.func42 ?_
 exact I3
theorem vi {a0:Int}{a1:aa}(hp:Rw [tI,tI,tI] a1/\ao [a1]<=1048576):ap 53 [.agg [.i a0,.s 3 a1]] [.agg [.i a0,.s 3 a1]]:=by
 obtain⟨w0,hlim⟩:=hp;simp only[ao,Nat.add_zero]at hlim;refine cb LQuar.B Tryz.func53 ?_
 exact mh
theorem uZ {a0:Int}{a1:aa}{d:DV}(hp:d=.agg [.i a0,.s 3 a1]/\Rw [tI,tI,tI] a1/\ao [a1]<=1099511627776):ap 64 [.agg [.i a0,.s 3 a1],d] [.k true]:=by
 obtain⟨rfl,w0,hlim⟩:=hp;simp only[ao,Nat.add_zero]at hlim;refine cb LQuar.B Tryz.func64 ?_
 exact mh
theorem qx {a0:Int}{a1:aa}{k:Int}(hp:Rw [tI,tI,tI] a1/\ao [a1]<=1099511627776/\0<=k/\bc [a1] k<=1152921504606846976):d5 109 [.agg [.i a0,.s 3 a1],.j k] [.s 3 (bV a1 k)] [.j (bc [a1] k)]:=by
 obtain⟨w0,hlim,hk0,hkb⟩:=hp;simp only[ao,Nat.add_zero]at hlim;have p0:bc [a1] k<=bc [a1] k/\0<=bc [a1] k:=cn (b:=[]) hk0;refine mb MQuar.B [(2,1)] Tryz.func109 ?_
 exact I4
namespace LPlan
structure av where
 szN:List aa->Int->Int
abbrev F0 :av:=⟨bi⟩
def ct (F:av):CT:=fun f ds=>match f,ds with
 |112,[.one (.s 1 es),.one (.v (.int .i64 left))]=>some (fun _=>Rw [tI] es/\0<=left/\left<=1048576,[.j (F.szN [es] left)])
 |132,[.one (.s 1 es)]=>some (fun _=>Rw [tI] es/\ak es<=1048576,[.one (.s 1 es)])
 |31,[.one (.s 1 es),d]=>some (fun _=>d=.one (.s 1 es)/\Rw [tI] es/\ak es<=1099511627776,[.k true])
 |_,_=>none
theorem ah :aO (ct F0):=by
 intro f ds pre res h hp;unfold ct at h;split at h<;>cases h
 exact fk hp;exact fm hp;exact ed hp
abbrev B :ce:=tb ah
end LPlan
namespace MPlan
structure av where
 kN:List aa->Int->Int
 mkN:aa->Int->aa
abbrev F0 :av:=⟨bc,bV⟩
def ct (F:av):CT:=fun f ds=>match f,ds with
 |34,[.one (.s 1 ms),.one (.v (.int .i64 k))]=>some (fun _=>∃ es,ms=bV es k/\Rw [tI] es/\ak es<=1099511627776/\0<=k/\bc [ms] k<=1152921504606846976,[.j (F.kN [ms] k)])
 |_,_=>none
theorem ah :aO (ct F0):=by
 intro f ds pre res h hp;unfold ct at h;split at h<;>cases h
 exact cX hp
def mt (F:av):MT:=fun f=>match f with
 | 33=>some fun ds=>match ds with
   |[.one (.s 1 es),.one (.v (.int .i64 k))]=>some (fun _=>Rw [tI] es/\ak es<=1099511627776/\0<=k/\bc [es] k<=1152921504606846976,[.s 1 (F.mkN es k)],[.j (F.kN [es] k)])
   |_=>none
 |_=>none
theorem cQ :fQ (mt F0):=by
 intro f mk h ds pre outs res hm hp;unfold mt at h;split at h
 ·cases h;dsimp only at hm;split at hm
  ·cases hm;exact cY hp
  ·cases hm
 ·cases h
abbrev B :ce:={Φ:=av,F0:=F0,ct:=ct,hc:=ah,mt:=mt,hm:=cQ}
end MPlan
theorem vc {a0 a1:Int}{a2:aa}{left:Int}(hp:Rw [tI] a2/\0<=left/\left<=1048576):ap 117 [.agg [.i a0,.i a1,.s 1 a2],.j left] [.j (bi [a2] left)]:=by
 obtain⟨w0,h0,h1⟩:=hp;refine cb LPlan.B Tryz.func117 ?_
 exact Rq
theorem vg {a0 a1:Int}{a2:aa}(hp:Rw [tI] a2/\ao [a2]<=1048576):ap 141 [.agg [.i a0,.i a1,.s 1 a2]] [.agg [.i a0,.i a1,.s 1 a2]]:=by
 obtain⟨w0,hlim⟩:=hp;simp only[ao,Nat.add_zero]at hlim;refine cb LPlan.B Tryz.func141 ?_
 exact mh
theorem uX {a0 a1:Int}{a2:aa}{d:DV}(hp:d=.agg [.i a0,.i a1,.s 1 a2]/\Rw [tI] a2/\ao [a2]<=1099511627776):ap 165 [.agg [.i a0,.i a1,.s 1 a2],d] [.k true]:=by
 obtain⟨rfl,w0,hlim⟩:=hp;simp only[ao,Nat.add_zero]at hlim;refine cb LPlan.B Tryz.func165 ?_
 exact mh
theorem qv {a0 a1:Int}{a2:aa}{k:Int}(hp:Rw [tI] a2/\ao [a2]<=1099511627776/\0<=k/\bc [a2] k<=1152921504606846976):d5 195 [.agg [.i a0,.i a1,.s 1 a2],.j k] [.s 1 (bV a2 k)] [.j (bc [a2] k)]:=by
 obtain⟨w0,hlim,hk0,hkb⟩:=hp;simp only[ao,Nat.add_zero]at hlim;have p0:bc [a2] k<=bc [a2] k/\0<=bc [a2] k:=cn (b:=[]) hk0;refine mb MPlan.B [(2,2)] Tryz.func195 ?_
 exact I4
namespace LJob
structure av where
 szN:List aa->Int->Int
abbrev F0 :av:=⟨bi⟩
def ct (F:av):CT:=fun f ds=>match f,ds with
 |117,[.agg [.v (.int .i64 a0),.v (.int .i64 a1),.s 1 a2],.one (.v (.int .i64 left))]=>some (fun _=>Rw [tI] a2/\0<=left/\left<=1048576,[.j (F.szN [a2] left)])
 |141,[.agg [.v (.int .i64 a0),.v (.int .i64 a1),.s 1 a2]]=>some (fun _=>Rw [tI] a2/\ao [a2]<=1048576,[.agg [.i a0,.i a1,.s 1 a2]])
 |165,[.agg [.v (.int .i64 a0),.v (.int .i64 a1),.s 1 a2],d]=>some (fun _=>d=.agg [.i a0,.i a1,.s 1 a2]/\Rw [tI] a2/\ao [a2]<=1099511627776,[.k true])
 |_,_=>none
theorem ah :aO (ct F0):=by
 intro f ds pre res h hp;unfold ct at h;split at h<;>cases h
 exact vc hp;exact vg hp;exact uX hp
abbrev B :ce:=tb ah
end LJob
namespace MJob
structure av where
 kN:List aa->Int->Int
 mkN:aa->Int->aa
abbrev F0 :av:=⟨bc,bV⟩
def mt (F:av):MT:=fun f=>match f with
 | 195=>some fun ds=>match ds with
   |[.agg [.v (.int .i64 a0),.v (.int .i64 a1),.s 1 a2],.one (.v (.int .i64 k))]=>some (fun _=>Rw [tI] a2/\ao [a2]<=1099511627776/\0<=k/\bc [a2] k<=1152921504606846976,[.s 1 (F.mkN a2 k)],[.j (F.kN [a2] k)])
   |_=>none
 |_=>none
theorem cQ :fQ (mt F0):=by
 intro f mk h ds pre outs res hm hp;unfold mt at h;split at h
 ·cases h;dsimp only at hm;split at hm
  ·cases hm;exact qv hp
  ·cases hm
 ·cases h
abbrev B :ce:={Φ:=av,F0:=F0,mt:=mt,hm:=cQ}
end MJob
theorem wF {a0 a1:Int}{a2:aa}{a3 a4 left:Int}(hp:Rw [tI] a2/\0<=left/\left<=1048576):ap 43 [.agg [.i a0,.i a1,.s 1 a2,.i a3,.i a4],.j left] [.j (bi [a2] left)]:=by
 obtain⟨w0,h0,h1⟩:=hp;refine cb LJob.B Tryz.func43 ?_
 exact Rq
theorem wG {a0 a1:Int}{a2:aa}{a3 a4:Int}(hp:Rw [tI] a2/\ao [a2]<=1048576):ap 54 [.agg [.i a0,.i a1,.s 1 a2,.i a3,.i a4]] [.agg [.i a0,.i a1,.s 1 a2,.i a3,.i a4]]:=by
 obtain⟨w0,hlim⟩:=hp;simp only[ao,Nat.add_zero]at hlim;refine cb LJob.B Tryz.func54 ?_
 exact mh
theorem wD {a0 a1:Int}{a2:aa}{a3 a4:Int}{d:DV}(hp:d=.agg [.i a0,.i a1,.s 1 a2,.i a3,.i a4]/\Rw [tI] a2/\ao [a2]<=1099511627776):ap 65 [.agg [.i a0,.i a1,.s 1 a2,.i a3,.i a4],d] [.k true]:=by
 obtain⟨rfl,w0,hlim⟩:=hp;simp only[ao,Nat.add_zero]at hlim;refine cb LJob.B Tryz.func65 ?_
 exact mh
theorem sD {a0 a1:Int}{a2:aa}{a3 a4 k:Int}(hp:Rw [tI] a2/\ao [a2]<=1099511627776/\0<=k/\bc [a2] k<=1152921504606846976):d5 110 [.agg [.i a0,.i a1,.s 1 a2,.i a3,.i a4],.j k] [.s 1 (bV a2 k)] [.j (bc [a2] k)]:=by
 obtain⟨w0,hlim,hk0,hkb⟩:=hp;simp only[ao,Nat.add_zero]at hlim;have p0:bc [a2] k<=bc [a2] k/\0<=bc [a2] k:=cn (b:=[]) hk0;refine mb MJob.B [(2,2)] Tryz.func110 ?_
 exact I4
end Go.V