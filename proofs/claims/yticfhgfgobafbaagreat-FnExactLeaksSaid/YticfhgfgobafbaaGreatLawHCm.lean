/- Contracts. -/
import Derived.Test.YticfhgfgobafbaaGreatLawHAm
import Derived.Test.YticfhgfgobafbaaGreatLawHEm
set_option linter.all false
namespace Go.V
open Go Go.Proofs
set_option maxRecDepth 1000000
set_option maxHeartbeats 8000000
namespace LCache
structure aO where
 szN:List aa->Int->Int
abbrev F0 :aO:=⟨bA⟩
def ct (F:aO):CT:=fun f ds=>match f,ds with
 |94,[.one (.s 1 es),.one (.v (.int .i64 left))]=>some (fun _=>Rw [.sl [tI]] es/\0<=left/\left<=1048576,[.j (F.szN [es] left)])
 |107,[.one (.s 1 es)]=>some (fun _=>Rw [.sl [tI]] es/\ak es<=1048576,[.one (.s 1 es)])
 |128,[.one (.s 1 es),d]=>some (fun _=>d=.one (.s 1 es)/\Rw [.sl [tI]] es/\ak es<=1099511627776,[.k true])
 |_,_=>none
theorem aj :aR (ct F0):=by
 intro f ds pre res h hp;unfold ct at h;split at h<;>cases h
 exact fm hp;exact fo hp;exact fk hp
abbrev B :cD:=tb aj
end LCache
theorem qg {a0:aa}{left:Int}(hp:Rw [.sl [tI]] a0/\0<=left/\left<=1048576):ao 92 [.agg [.s 1 a0],.j left] [.j (bA [a0] left)]:=by
 obtain⟨w0,h0,h1⟩:=hp;refine cb LCache.B Tryz.func92 ?_
 exact LL
theorem qm {a0:aa}(hp:Rw [.sl [tI]] a0/\am [a0]<=1048576):ao 105 [.agg [.s 1 a0]] [.agg [.s 1 a0]]:=by
 obtain⟨w0,hlim⟩:=hp;simp only[am,Nat.add_zero]at hlim;refine cb LCache.B Tryz.func105 ?_
 exact o9
theorem pV {a0:aa}{d:DV}(hp:d=.agg [.s 1 a0]/\Rw [.sl [tI]] a0/\am [a0]<=1099511627776):ao 126 [.agg [.s 1 a0],d] [.k true]:=by
 obtain⟨rfl,w0,hlim⟩:=hp;simp only[am,Nat.add_zero]at hlim;refine cb LCache.B Tryz.func126 ?_
 exact o9
namespace LCacheS
structure aO where
 szN:List aa->Int->Int
abbrev F0 :aO:=⟨bA⟩
def ct (F:aO):CT:=fun f ds=>match f,ds with
 |92,[.agg [.s 1 a0],.one (.v (.int .i64 left))]=>some (fun _=>Rw [.sl [tI]] a0/\0<=left/\left<=1048576,[.j (F.szN [a0] left)])
 |105,[.agg [.s 1 a0]]=>some (fun _=>Rw [.sl [tI]] a0/\am [a0]<=1048576,[.agg [.s 1 a0]])
 |126,[.agg [.s 1 a0],d]=>some (fun _=>d=.agg [.s 1 a0]/\Rw [.sl [tI]] a0/\am [a0]<=1099511627776,[.k true])
 |_,_=>none
theorem aj :aR (ct F0):=by
 intro f ds pre res h hp;unfold ct at h;split at h<;>cases h
 exact qg hp;exact qm hp;exact pV hp
abbrev B :cD:=tb aj
end LCacheS
namespace MCacheS
structure aO where
 kN:List aa->Int->Int
 mkN:aa->Int->aa
abbrev F0 :aO:=⟨aX,bV⟩
def mt (F:aO):MT:=fun f=>match f with
 | 132=>some fun ds=>match ds with
   |[.one (.s 1 es),.one (.v (.int .i64 k))]=>some (fun _=>Rw [.sl [tI]] es/\ak es<=1099511627776/\0<=k/\aX [es] k<=1152921504606846976,[.s 1 (F.mkN es k)],[.j (F.kN [es] k)])
   |_=>none
 |_=>none
theorem db :fK (mt F0):=by
 intro f mk h ds pre outs res hm hp;unfold mt at h;split at h
 ·cases h;dsimp only at hm;split at hm
  ·cases hm;exact er hp
  ·cases hm
 ·cases h
abbrev B :cD:={Φ:=aO,F0:=F0,mt:=mt,hm:=db}
end MCacheS
theorem oq {es:aa}{left:Int}(hp:Rw [.sl [.sl [tI]]] es/\0<=left/\left<=1048576):ao 21 [.one (.s 1 es),.j left] [.j (bA [es] left)]:=by
 obtain⟨hw,h0,h1⟩:=hp;have hwf:Wf [.s 1 []] es:=hw.wf;have hm:=hw.1;unfold maxLen at hm;have hs:bP .sub .i64 left es.length=left-es.length:=cR (by omega);have hcE:ak es=es.length+be es:=rfl;have hn:bA [es] left=if left<ak es then-1 else left-ak es:=by unfold bA;rw[cG]
 refine cb LCacheS.B Tryz.func21 ?_
 intro O r F hO hr hF;cbv
 apply bi<;>intro hb<;>cbv
 ·repeat' first|apply And.intro|(apply bi<;>intro hb<;>cbv)
  all_goals exact Is
 have hb0:0<=left-es.length:=by
  (subst hO hr hF;(try simp only[nc]at*);(try simp only[ai,SS,sa,az]at*))
  rw[hs]at hb;exact hb
 clear hb;refine⟨[0,1,5],[],Int×Int,fun s=>match s with|(i,l)=>[.reg 5 (.j i),.reg 1 (.j l)],fun s=>0<=s.1/\s.1.toNat<=es.length/\0<=s.2/\s.2=left-es.length-be (es.take s.1.toNat),fun s=>es.length-s.1.toNat,⟨(0,O.ar .sub .i64 left (O.zi (O.ln es))),?_,?_⟩,?_⟩
 ·(subst hO hr hF;(try simp only[nc]at*);(try simp only[ai,SS,sa,az]at*))
  rw[hs];exact⟨by omega,Nat.zero_le _,hb0,by simp[be]⟩
 ·cbv
 ·rintro⟨i,l⟩ hi;replace hi:0<=i/\i.toNat<=es.length/\0<=l/\l=left-es.length-be (es.take i.toNat):=hi;obtain⟨g0,g1,g2,g3⟩:=hi;cbv
  repeat' first|apply And.intro|(apply bi<;>intro hb<;>cbv)|(refine ab (O.ar .add .i64 i 1,F.szN [O.gs es i 0] l) ?_ ?_ ?_;focus (cbv;done))
  all_goals(subst hO hr hF;(try simp only[nc]at*);(try simp only[ai,SS,sa,az]at*))
  all_goals have hle:=bM (es:=es) (n:=i.toNat)
  all_goals have hsz:=fX (a:=[ax es i 0]) (left:=l)
  all_goals((have hsz2:0<=bA [ax es i 0] l->bA [ax es i 0] l=l-am [ax es i 0]:=lU);(try have hlt:i<es.length:=by assumption);(try have he:es.getD i.toNat []=[.s 1 (ax es i 0)]:=(au hwf g0 hlt).symm);(try rw[eg (n:=es.length) g0 hlt (by omega)]);(try have hr0:Rw [.sl [tI]] (ax es i 0):=Rw.sub (fs:=[.sl [.sl [tI]]]) hw (by omega) rfl))
  all_goals exact NC
theorem oD {es:aa}(hp:Rw [.sl [.sl [tI]]] es/\ak es<=1048576):ao 33 [.one (.s 1 es)] [.one (.s 1 es)]:=by
 obtain⟨hw,hlim⟩:=hp;have hwf:Wf [.s 1 []] es:=hw.wf;have hlen:=dm hlim;refine cb LCacheS.B Tryz.func33 ?_
 intro O r F hO hr hF;cbv
 have h0z:bT es [.s 1 []] 0=O.rep (O.zi (O.ln es)) [.s 1 []]:=by
  subst hO;rw[cz];rfl
 refine⟨?_,?_,[0,3,4],[3],Int×aa,fun s=>[.reg 4 (.j s.1),.leaf 3 0 ⟨0,0,none,.own (.s 1 s.2)⟩],fun s=>0<=s.1/\s.1.toNat<=es.length/\s.2=bT es [.s 1 []] s.1.toNat,fun s=>es.length-s.1.toNat,⟨(0,O.rep (O.zi (O.ln es)) [.s 1 []]),?_,?_⟩,?_⟩
 ·subst hO;exact iB (b:=24) (show es.length*_<=_ by omega) (show es.length<=_ by omega)
 ·subst hO;exact⟨rfl,rfl⟩
 ·exact⟨by omega,Nat.zero_le _,h0z.symm⟩
 ·cbv
 ·rintro⟨i,m⟩ hi;replace hi:0<=i/\i.toNat<=es.length/\m=bT es [.s 1 []] i.toNat:=hi;obtain⟨g0,g1,hm⟩:=hi;cbv
  repeat' first|apply And.intro|(apply bi<;>intro hb<;>cbv)|(refine ab (O.ar .add .i64 i 1,O.up (.s 1 m) [(O.ad 0 i,0)] [.s 1 (O.gs es i 0)]) ?_ ?_ ?_;focus (cbv;done))
  all_goals(subst hO hr hF;(try simp only[nc]at*);(try simp only[ai,SS,sa,az]at*);(try simp only[mK,List.length_replicate,Int.toNat_natCast]at*);(try have hlt:i<es.length:=by assumption);(try have he:es.getD i.toNat []=[.s 1 (ax es i 0)]:=(au hwf g0 hlt).symm);(try rw[eg (n:=es.length) g0 hlt (by omega)]);(try have hr0:Rw [.sl [tI]] (ax es i 0):=Rw.sub (fs:=[.sl [.sl [tI]]]) hw (by omega) rfl))
  all_goals exact NB
theorem nV {es:aa}{d:DV}(hp:d=.one (.s 1 es)/\Rw [.sl [.sl [tI]]] es/\ak es<=1099511627776):ao 50 [.one (.s 1 es),d] [.k true]:=by
 obtain⟨rfl,hw,hlim⟩:=hp;have hwf:Wf [.s 1 []] es:=hw.wf;have hlen:=dm hlim;refine cb LCacheS.B Tryz.func50 ?_
 intro O r F hO hr hF;cbv
 apply bi<;>intro hb<;>cbv
 ·(subst hO hr hF;(try simp only[nc]at*);(try simp only[ai,SS,sa,az]at*));exact absurd rfl hb
 ·clear hb;refine⟨[0,1,5],[],Int,fun i=>[.reg 5 (.j i)],fun i=>0<=i/\i.toNat<=es.length,fun i=>es.length-i.toNat,⟨0,?_,?_⟩,?_⟩
  ·exact⟨by omega,Nat.zero_le _⟩
  ·cbv
  ·rintro i hi;replace hi:0<=i/\i.toNat<=es.length:=hi;obtain⟨g0,g1⟩:=hi;cbv
   repeat' first|apply And.intro|(apply bi<;>intro hb<;>cbv)|(refine ab (O.ar .add .i64 i 1) ?_ ?_ ?_;focus (cbv;done))
   all_goals(subst hO hr hF;(try simp only[nc]at*);(try simp only[ai,SS,sa,az]at*);(try have hlt:i<es.length:=by assumption);(try have he:es.getD i.toNat []=[.s 1 (ax es i 0)]:=(au hwf g0 hlt).symm);(try rw[eg (n:=es.length) g0 hlt (by omega)]);(try have hr0:Rw [.sl [tI]] (ax es i 0):=Rw.sub (fs:=[.sl [.sl [tI]]]) hw (by omega) rfl))
   all_goals exact Ir
theorem kS {es:aa}{k:Int}(hp:Rw [.sl [.sl [tI]]] es/\ak es<=1099511627776/\0<=k/\aX [es] k<=1152921504606846976):dK 59 [.one (.s 1 es),.j k] [.s 1 (bV es k)] [.j (aX [es] k)]:=by
 obtain⟨hw,hlim,hk0,hkb⟩:=hp;have hwf:Wf [.s 1 []] es:=hw.wf;have hlen:=dm hlim;refine mb MCacheS.B [(0,0)] Tryz.func59 ?_
 intro O r os F hO hr hos hF;cbv
 refine⟨[0,1,5],[0],Int×Int×aa,fun s=>match s with|(i,k',cur)=>[.reg 5 (.j i),.reg 1 (.j k'),.leaf 0 0 ⟨0,0,some 0,.own (.s 1 cur)⟩],fun s=>0<=s.1/\s.1.toNat<=es.length/\s.2.1=fR es k s.1.toNat/\s.2.2=dA es k s.1.toNat,fun s=>es.length-s.1.toNat,⟨(0,k,es),?_,?_⟩,?_⟩
 ·exact⟨by omega,Nat.zero_le _,cv.symm,cM.symm⟩
 ·cbv
 ·rintro⟨i,k',cur⟩ hi;replace hi:0<=i/\i.toNat<=es.length/\k'=fR es k i.toNat/\cur=dA es k i.toNat:=hi;obtain⟨g0,g1,hk',hc⟩:=hi;cbv
  repeat' first|apply And.intro|(apply bi<;>intro hb<;>cbv)|(refine ab (O.ar .add .i64 i 1,F.kN [O.ps (.s 1 (cur)) [(O.ad 0 i,0)]] (k'),O.up (.s 1 (cur)) [(O.ad 0 i,0)] [.s 1 (F.mkN (O.ps (.s 1 (cur)) [(O.ad 0 i,0)]) (k'))]) ?_ ?_ ?_;focus (cbv;done))
  all_goals((try subst hos);subst hO hr hF;(try simp only[nc]at*);(try simp only[ai,SS,sa,az]at*);(try have hlt:i<es.length:=by assumption);(try have he:es.getD i.toNat []=[.s 1 (ax es i 0)]:=(au hwf g0 hlt).symm);(try have hcg:cur.getD i.toNat []=[.s 1 (ax es i 0)]:=by rw[hc,cL g1];exact he);(try rw[eg (n:=es.length) g0 hlt (by omega)]);(try have hlt':i.toNat<es.length:=by omega);(try have hr0:Rw [.sl [tI]] (ax es i 0):=Rw.sub (fs:=[.sl [.sl [tI]]]) hw (by omega) rfl))
  all_goals exact NA
namespace LPostSS
structure aO where
 szN:List aa->Int->Int
abbrev F0 :aO:=⟨bA⟩
def ct (F:aO):CT:=fun f ds=>match f,ds with
 |174,[.one (.s 2 es),.one (.v (.int .i64 left))]=>some (fun _=>Rw [tI,tI] es/\0<=left/\left<=1048576,[.j (F.szN [es] left)])
 |181,[.one (.s 2 es)]=>some (fun _=>Rw [tI,tI] es/\ak es<=1048576,[.one (.s 2 es)])
 |191,[.one (.s 2 es),d]=>some (fun _=>d=.one (.s 2 es)/\Rw [tI,tI] es/\ak es<=1099511627776,[.k true])
 |_,_=>none
theorem aj :aR (ct F0):=by
 intro f ds pre res h hp;unfold ct at h;split at h<;>cases h
 exact qh hp;exact qp hp;exact pY hp
abbrev B :cD:=tb aj
end LPostSS
namespace MPostSS
structure aO where
 kN:List aa->Int->Int
 mkN:aa->Int->aa
abbrev F0 :aO:=⟨aX,bV⟩
def mt (F:aO):MT:=fun f=>match f with
 | 195=>some fun ds=>match ds with
   |[.one (.s 2 es),.one (.v (.int .i64 k))]=>some (fun _=>Rw [tI,tI] es/\ak es<=1099511627776/\0<=k/\aX [es] k<=1152921504606846976,[.s 2 (F.mkN es k)],[.j (F.kN [es] k)])
   |_=>none
 |_=>none
theorem db :fK (mt F0):=by
 intro f mk h ds pre outs res hm hp;unfold mt at h;split at h
 ·cases h;dsimp only at hm;split at hm
  ·cases hm;exact mi hp
  ·cases hm
 ·cases h
abbrev B :cD:={Φ:=aO,F0:=F0,mt:=mt,hm:=db}
end MPostSS
theorem oA {es:aa}{left:Int}(hp:Rw [.sl [tI,tI]] es/\0<=left/\left<=1048576):ao 93 [.one (.s 1 es),.j left] [.j (bA [es] left)]:=by
 obtain⟨hw,h0,h1⟩:=hp;have hwf:Wf [.s 2 []] es:=hw.wf;have hm:=hw.1;unfold maxLen at hm;have hs:bP .sub .i64 left es.length=left-es.length:=cR (by omega);have hcE:ak es=es.length+be es:=rfl;have hn:bA [es] left=if left<ak es then-1 else left-ak es:=by unfold bA;rw[cG]
 refine cb LPostSS.B Tryz.func93 ?_
 intro O r F hO hr hF;cbv
 apply bi<;>intro hb<;>cbv
 ·repeat' first|apply And.intro|(apply bi<;>intro hb<;>cbv)
  all_goals exact Is
 have hb0:0<=left-es.length:=by
  (subst hO hr hF;(try simp only[nc]at*);(try simp only[ai,SS,sa,az]at*))
  rw[hs]at hb;exact hb
 clear hb;refine⟨[0,1,5],[],Int×Int,fun s=>match s with|(i,l)=>[.reg 5 (.j i),.reg 1 (.j l)],fun s=>0<=s.1/\s.1.toNat<=es.length/\0<=s.2/\s.2=left-es.length-be (es.take s.1.toNat),fun s=>es.length-s.1.toNat,⟨(0,O.ar .sub .i64 left (O.zi (O.ln es))),?_,?_⟩,?_⟩
 ·(subst hO hr hF;(try simp only[nc]at*);(try simp only[ai,SS,sa,az]at*))
  rw[hs];exact⟨by omega,Nat.zero_le _,hb0,by simp[be]⟩
 ·cbv
 ·rintro⟨i,l⟩ hi;replace hi:0<=i/\i.toNat<=es.length/\0<=l/\l=left-es.length-be (es.take i.toNat):=hi;obtain⟨g0,g1,g2,g3⟩:=hi;cbv
  repeat' first|apply And.intro|(apply bi<;>intro hb<;>cbv)|(refine ab (O.ar .add .i64 i 1,F.szN [O.gs es i 0] l) ?_ ?_ ?_;focus (cbv;done))
  all_goals(subst hO hr hF;(try simp only[nc]at*);(try simp only[ai,SS,sa,az]at*))
  all_goals have hle:=bM (es:=es) (n:=i.toNat)
  all_goals have hsz:=fX (a:=[ax es i 0]) (left:=l)
  all_goals((have hsz2:0<=bA [ax es i 0] l->bA [ax es i 0] l=l-am [ax es i 0]:=lU);(try have hlt:i<es.length:=by assumption);(try have he:es.getD i.toNat []=[.s 2 (ax es i 0)]:=(au hwf g0 hlt).symm);(try rw[eg (n:=es.length) g0 hlt (by omega)]);(try have hr0:Rw [tI,tI] (ax es i 0):=Rw.sub (fs:=[.sl [tI,tI]]) hw (by omega) rfl))
  all_goals exact NC
theorem oI {es:aa}(hp:Rw [.sl [tI,tI]] es/\ak es<=1048576):ao 106 [.one (.s 1 es)] [.one (.s 1 es)]:=by
 obtain⟨hw,hlim⟩:=hp;have hwf:Wf [.s 2 []] es:=hw.wf;have hlen:=dm hlim;refine cb LPostSS.B Tryz.func106 ?_
 intro O r F hO hr hF;cbv
 have h0z:bT es [.s 2 []] 0=O.rep (O.zi (O.ln es)) [.s 2 []]:=by
  subst hO;rw[cz];rfl
 refine⟨?_,?_,[0,3,4],[3],Int×aa,fun s=>[.reg 4 (.j s.1),.leaf 3 0 ⟨0,0,none,.own (.s 1 s.2)⟩],fun s=>0<=s.1/\s.1.toNat<=es.length/\s.2=bT es [.s 2 []] s.1.toNat,fun s=>es.length-s.1.toNat,⟨(0,O.rep (O.zi (O.ln es)) [.s 2 []]),?_,?_⟩,?_⟩
 ·subst hO;exact iB (b:=24) (show es.length*_<=_ by omega) (show es.length<=_ by omega)
 ·subst hO;exact⟨rfl,rfl⟩
 ·exact⟨by omega,Nat.zero_le _,h0z.symm⟩
 ·cbv
 ·rintro⟨i,m⟩ hi;replace hi:0<=i/\i.toNat<=es.length/\m=bT es [.s 2 []] i.toNat:=hi;obtain⟨g0,g1,hm⟩:=hi;cbv
  repeat' first|apply And.intro|(apply bi<;>intro hb<;>cbv)|(refine ab (O.ar .add .i64 i 1,O.up (.s 1 m) [(O.ad 0 i,0)] [.s 2 (O.gs es i 0)]) ?_ ?_ ?_;focus (cbv;done))
  all_goals(subst hO hr hF;(try simp only[nc]at*);(try simp only[ai,SS,sa,az]at*);(try simp only[mK,List.length_replicate,Int.toNat_natCast]at*);(try have hlt:i<es.length:=by assumption);(try have he:es.getD i.toNat []=[.s 2 (ax es i 0)]:=(au hwf g0 hlt).symm);(try rw[eg (n:=es.length) g0 hlt (by omega)]);(try have hr0:Rw [tI,tI] (ax es i 0):=Rw.sub (fs:=[.sl [tI,tI]]) hw (by omega) rfl))
  all_goals exact NB
theorem oa {es:aa}{d:DV}(hp:d=.one (.s 1 es)/\Rw [.sl [tI,tI]] es/\ak es<=1099511627776):ao 127 [.one (.s 1 es),d] [.k true]:=by
 obtain⟨rfl,hw,hlim⟩:=hp;have hwf:Wf [.s 2 []] es:=hw.wf;have hlen:=dm hlim;refine cb LPostSS.B Tryz.func127 ?_
 intro O r F hO hr hF;cbv
 apply bi<;>intro hb<;>cbv
 ·(subst hO hr hF;(try simp only[nc]at*);(try simp only[ai,SS,sa,az]at*));exact absurd rfl hb
 ·clear hb;refine⟨[0,1,5],[],Int,fun i=>[.reg 5 (.j i)],fun i=>0<=i/\i.toNat<=es.length,fun i=>es.length-i.toNat,⟨0,?_,?_⟩,?_⟩
  ·exact⟨by omega,Nat.zero_le _⟩
  ·cbv
  ·rintro i hi;replace hi:0<=i/\i.toNat<=es.length:=hi;obtain⟨g0,g1⟩:=hi;cbv
   repeat' first|apply And.intro|(apply bi<;>intro hb<;>cbv)|(refine ab (O.ar .add .i64 i 1) ?_ ?_ ?_;focus (cbv;done))
   all_goals(subst hO hr hF;(try simp only[nc]at*);(try simp only[ai,SS,sa,az]at*);(try have hlt:i<es.length:=by assumption);(try have he:es.getD i.toNat []=[.s 2 (ax es i 0)]:=(au hwf g0 hlt).symm);(try rw[eg (n:=es.length) g0 hlt (by omega)]);(try have hr0:Rw [tI,tI] (ax es i 0):=Rw.sub (fs:=[.sl [tI,tI]]) hw (by omega) rfl))
   all_goals exact Ir
theorem kX {es:aa}{k:Int}(hp:Rw [.sl [tI,tI]] es/\ak es<=1099511627776/\0<=k/\aX [es] k<=1152921504606846976):dK 133 [.one (.s 1 es),.j k] [.s 1 (bV es k)] [.j (aX [es] k)]:=by
 obtain⟨hw,hlim,hk0,hkb⟩:=hp;have hwf:Wf [.s 2 []] es:=hw.wf;have hlen:=dm hlim;refine mb MPostSS.B [(0,0)] Tryz.func133 ?_
 intro O r os F hO hr hos hF;cbv
 refine⟨[0,1,5],[0],Int×Int×aa,fun s=>match s with|(i,k',cur)=>[.reg 5 (.j i),.reg 1 (.j k'),.leaf 0 0 ⟨0,0,some 0,.own (.s 1 cur)⟩],fun s=>0<=s.1/\s.1.toNat<=es.length/\s.2.1=fR es k s.1.toNat/\s.2.2=dA es k s.1.toNat,fun s=>es.length-s.1.toNat,⟨(0,k,es),?_,?_⟩,?_⟩
 ·exact⟨by omega,Nat.zero_le _,cv.symm,cM.symm⟩
 ·cbv
 ·rintro⟨i,k',cur⟩ hi;replace hi:0<=i/\i.toNat<=es.length/\k'=fR es k i.toNat/\cur=dA es k i.toNat:=hi;obtain⟨g0,g1,hk',hc⟩:=hi;cbv
  repeat' first|apply And.intro|(apply bi<;>intro hb<;>cbv)|(refine ab (O.ar .add .i64 i 1,F.kN [O.ps (.s 1 (cur)) [(O.ad 0 i,0)]] (k'),O.up (.s 1 (cur)) [(O.ad 0 i,0)] [.s 2 (F.mkN (O.ps (.s 1 (cur)) [(O.ad 0 i,0)]) (k'))]) ?_ ?_ ?_;focus (cbv;done))
  all_goals((try subst hos);subst hO hr hF;(try simp only[nc]at*);(try simp only[ai,SS,sa,az]at*);(try have hlt:i<es.length:=by assumption);(try have he:es.getD i.toNat []=[.s 2 (ax es i 0)]:=(au hwf g0 hlt).symm);(try have hcg:cur.getD i.toNat []=[.s 2 (ax es i 0)]:=by rw[hc,cL g1];exact he);(try rw[eg (n:=es.length) g0 hlt (by omega)]);(try have hlt':i.toNat<es.length:=by omega);(try have hr0:Rw [tI,tI] (ax es i 0):=Rw.sub (fs:=[.sl [tI,tI]]) hw (by omega) rfl))
  all_goals exact NA
namespace LMail
structure aO where
 szN:List aa->Int->Int
abbrev F0 :aO:=⟨bA⟩
def ct (F:aO):CT:=fun f ds=>match f,ds with
 |93,[.one (.s 1 es),.one (.v (.int .i64 left))]=>some (fun _=>Rw [.sl [tI,tI]] es/\0<=left/\left<=1048576,[.j (F.szN [es] left)])
 |106,[.one (.s 1 es)]=>some (fun _=>Rw [.sl [tI,tI]] es/\ak es<=1048576,[.one (.s 1 es)])
 |127,[.one (.s 1 es),d]=>some (fun _=>d=.one (.s 1 es)/\Rw [.sl [tI,tI]] es/\ak es<=1099511627776,[.k true])
 |94,[.one (.s 1 es),.one (.v (.int .i64 left))]=>some (fun _=>Rw [.sl [tI]] es/\0<=left/\left<=1048576,[.j (F.szN [es] left)])
 |107,[.one (.s 1 es)]=>some (fun _=>Rw [.sl [tI]] es/\ak es<=1048576,[.one (.s 1 es)])
 |128,[.one (.s 1 es),d]=>some (fun _=>d=.one (.s 1 es)/\Rw [.sl [tI]] es/\ak es<=1099511627776,[.k true])
 |_,_=>none
theorem aj :aR (ct F0):=by
 intro f ds pre res h hp;unfold ct at h;split at h<;>cases h
 exact oA hp;exact oI hp;exact oa hp;exact fm hp;exact fo hp;exact fk hp
abbrev B :cD:=tb aj
end LMail
namespace MMail
structure aO where
 kN:List aa->Int->Int
 mkN:aa->Int->aa
abbrev F0 :aO:=⟨aX,bV⟩
def mt (F:aO):MT:=fun f=>match f with
 | 133=>some fun ds=>match ds with
   |[.one (.s 1 es),.one (.v (.int .i64 k))]=>some (fun _=>Rw [.sl [tI,tI]] es/\ak es<=1099511627776/\0<=k/\aX [es] k<=1152921504606846976,[.s 1 (F.mkN es k)],[.j (F.kN [es] k)])
   |_=>none
 | 132=>some fun ds=>match ds with
   |[.one (.s 1 es),.one (.v (.int .i64 k))]=>some (fun _=>Rw [.sl [tI]] es/\ak es<=1099511627776/\0<=k/\aX [es] k<=1152921504606846976,[.s 1 (F.mkN es k)],[.j (F.kN [es] k)])
   |_=>none
 |_=>none
theorem db :fK (mt F0):=by
 intro f mk h ds pre outs res hm hp;unfold mt at h;split at h
 ·cases h;dsimp only at hm;split at hm
  ·cases hm;exact kX hp
  ·cases hm
 ·cases h;dsimp only at hm;split at hm
  ·cases hm;exact er hp
  ·cases hm
 ·cases h
abbrev B :cD:={Φ:=aO,F0:=F0,mt:=mt,hm:=db}
end MMail
theorem sC {a0 a1:aa}{left:Int}(hp:Rw [.sl [tI,tI]] a0/\Rw [.sl [tI]] a1/\0<=left/\left<=1048576):ao 22 [.agg [.s 1 a0,.s 1 a1],.j left] [.j (bA [a0,a1] left)]:=by
 obtain⟨w0,w1,h0,h1⟩:=hp;refine cb LMail.B Tryz.func22 ?_
 intro O r F hO hr hF;cbv
 repeat' first|apply And.intro|(apply bi<;>intro hb<;>cbv)
 all_goals(subst hO hr hF;(try simp only[nc]at*);(try simp only[ai,SS,sa,az]at*))
 all_goals iterate 1 (try simp(disch:=assumption) only[fW,List.cons_append,List.nil_append]at*)
 all_goals exact LU
theorem sG {a0 a1:aa}(hp:Rw [.sl [tI,tI]] a0/\Rw [.sl [tI]] a1/\am [a0,a1]<=1048576):ao 34 [.agg [.s 1 a0,.s 1 a1]] [.agg [.s 1 a0,.s 1 a1]]:=by
 obtain⟨w0,w1,hlim⟩:=hp;simp only[am,Nat.add_zero]at hlim;refine cb LMail.B Tryz.func34 ?_
 exact LR
theorem sr {a0 a1:aa}{d:DV}(hp:d=.agg [.s 1 a0,.s 1 a1]/\Rw [.sl [tI,tI]] a0/\Rw [.sl [tI]] a1/\am [a0,a1]<=1099511627776):ao 51 [.agg [.s 1 a0,.s 1 a1],d] [.k true]:=by
 obtain⟨rfl,w0,w1,hlim⟩:=hp;simp only[am,Nat.add_zero]at hlim;refine cb LMail.B Tryz.func51 ?_
 exact LQ
theorem oh {a0 a1:aa}{k:Int}(hp:Rw [.sl [tI,tI]] a0/\Rw [.sl [tI]] a1/\am [a0,a1]<=1099511627776/\0<=k/\aX [a0,a1] k<=1152921504606846976):dK 60 [.agg [.s 1 a0,.s 1 a1],.j k] [.s 1 (bV a0 k),.s 1 (bV a1 (aX [a0] k))] [.j (aX [a0,a1] k)]:=by
 obtain⟨w0,w1,hlim,hk0,hkb⟩:=hp;simp only[am,Nat.add_zero]at hlim;have p0:aX [a0] k<=aX [a0,a1] k/\0<=aX [a0] k:=ca (b:=[a1]) hk0;have p1:aX [a0,a1] k<=aX [a0,a1] k/\0<=aX [a0,a1] k:=ca (b:=[]) hk0;refine mb MMail.B [(2,0),(2,1)] Tryz.func60 ?_
 exact L8
namespace LQuar
structure aO where
 szN:List aa->Int->Int
abbrev F0 :aO:=⟨bA⟩
def ct (F:aO):CT:=fun f ds=>match f,ds with
 |95,[.one (.s 3 es),.one (.v (.int .i64 left))]=>some (fun _=>Rw [tI,tI,tI] es/\0<=left/\left<=1048576,[.j (F.szN [es] left)])
 |108,[.one (.s 3 es)]=>some (fun _=>Rw [tI,tI,tI] es/\ak es<=1048576,[.one (.s 3 es)])
 |129,[.one (.s 3 es),d]=>some (fun _=>d=.one (.s 3 es)/\Rw [tI,tI,tI] es/\ak es<=1099511627776,[.k true])
 |_,_=>none
theorem aj :aR (ct F0):=by
 intro f ds pre res h hp;unfold ct at h;split at h<;>cases h
 exact oC hp;exact oK hp;exact od hp
abbrev B :cD:=tb aj
end LQuar
namespace MQuar
structure aO where
 kN:List aa->Int->Int
 mkN:aa->Int->aa
abbrev F0 :aO:=⟨aX,bV⟩
def mt (F:aO):MT:=fun f=>match f with
 | 134=>some fun ds=>match ds with
   |[.one (.s 3 es),.one (.v (.int .i64 k))]=>some (fun _=>Rw [tI,tI,tI] es/\ak es<=1099511627776/\0<=k/\aX [es] k<=1152921504606846976,[.s 3 (F.mkN es k)],[.j (F.kN [es] k)])
   |_=>none
 |_=>none
theorem db :fK (mt F0):=by
 intro f mk h ds pre outs res hm hp;unfold mt at h;split at h
 ·cases h;dsimp only at hm;split at hm
  ·cases hm;exact kZ hp
  ·cases hm
 ·cases h
abbrev B :cD:={Φ:=aO,F0:=F0,mt:=mt,hm:=db}
end MQuar
theorem sF {a0:Int}{a1:aa}{left:Int}(hp:Rw [tI,tI,tI] a1/\0<=left/\left<=1048576):ao 23 [.agg [.i a0,.s 3 a1],.j left] [.j (bA [a1] left)]:=by
 obtain⟨w0,h0,h1⟩:=hp;refine cb LQuar.B Tryz.func23 ?_
 exact LL
theorem sK {a0:Int}{a1:aa}(hp:Rw [tI,tI,tI] a1/\am [a1]<=1048576):ao 35 [.agg [.i a0,.s 3 a1]] [.agg [.i a0,.s 3 a1]]:=by
 obtain⟨w0,hlim⟩:=hp;simp only[am,Nat.add_zero]at hlim;refine cb LQuar.B Tryz.func35 ?_
 exact o9
theorem sy {a0:Int}{a1:aa}{d:DV}(hp:d=.agg [.i a0,.s 3 a1]/\Rw [tI,tI,tI] a1/\am [a1]<=1099511627776):ao 52 [.agg [.i a0,.s 3 a1],d] [.k true]:=by
 obtain⟨rfl,w0,hlim⟩:=hp;simp only[am,Nat.add_zero]at hlim;refine cb LQuar.B Tryz.func52 ?_
 exact o9
theorem om {a0:Int}{a1:aa}{k:Int}(hp:Rw [tI,tI,tI] a1/\am [a1]<=1099511627776/\0<=k/\aX [a1] k<=1152921504606846976):dK 61 [.agg [.i a0,.s 3 a1],.j k] [.s 3 (bV a1 k)] [.j (aX [a1] k)]:=by
 obtain⟨w0,hlim,hk0,hkb⟩:=hp;simp only[am,Nat.add_zero]at hlim;have p0:aX [a1] k<=aX [a1] k/\0<=aX [a1] k:=ca (b:=[]) hk0;refine mb MQuar.B [(2,1)] Tryz.func61 ?_
 exact L9
namespace LPlan
structure aO where
 szN:List aa->Int->Int
abbrev F0 :aO:=⟨bA⟩
def ct (F:aO):CT:=fun f ds=>match f,ds with
 |91,[.one (.s 1 es),.one (.v (.int .i64 left))]=>some (fun _=>Rw [tI] es/\0<=left/\left<=1048576,[.j (F.szN [es] left)])
 |100,[.one (.s 1 es)]=>some (fun _=>Rw [tI] es/\ak es<=1048576,[.one (.s 1 es)])
 |9,[.one (.s 1 es),d]=>some (fun _=>d=.one (.s 1 es)/\Rw [tI] es/\ak es<=1099511627776,[.k true])
 |_,_=>none
theorem aj :aR (ct F0):=by
 intro f ds pre res h hp;unfold ct at h;split at h<;>cases h
 exact f9 hp;exact ga hp;exact eE hp
abbrev B :cD:=tb aj
end LPlan
namespace MPlan
structure aO where
 kN:List aa->Int->Int
 mkN:aa->Int->aa
abbrev F0 :aO:=⟨aX,bV⟩
def ct (F:aO):CT:=fun f ds=>match f,ds with
 |13,[.one (.s 1 ms),.one (.v (.int .i64 k))]=>some (fun _=>∃ es,ms=bV es k/\Rw [tI] es/\ak es<=1099511627776/\0<=k/\aX [ms] k<=1152921504606846976,[.j (F.kN [ms] k)])
 |_,_=>none
theorem aj :aR (ct F0):=by
 intro f ds pre res h hp;unfold ct at h;split at h<;>cases h
 exact dR hp
def mt (F:aO):MT:=fun f=>match f with
 | 12=>some fun ds=>match ds with
   |[.one (.s 1 es),.one (.v (.int .i64 k))]=>some (fun _=>Rw [tI] es/\ak es<=1099511627776/\0<=k/\aX [es] k<=1152921504606846976,[.s 1 (F.mkN es k)],[.j (F.kN [es] k)])
   |_=>none
 |_=>none
theorem db :fK (mt F0):=by
 intro f mk h ds pre outs res hm hp;unfold mt at h;split at h
 ·cases h;dsimp only at hm;split at hm
  ·cases hm;exact dS hp
  ·cases hm
 ·cases h
abbrev B :cD:={Φ:=aO,F0:=F0,ct:=ct,hc:=aj,mt:=mt,hm:=db}
end MPlan
theorem sE {a0 a1:Int}{a2:aa}{left:Int}(hp:Rw [tI] a2/\0<=left/\left<=1048576):ao 96 [.agg [.i a0,.i a1,.s 1 a2],.j left] [.j (bA [a2] left)]:=by
 obtain⟨w0,h0,h1⟩:=hp;refine cb LPlan.B Tryz.func96 ?_
 exact LM
theorem sI {a0 a1:Int}{a2:aa}(hp:Rw [tI] a2/\am [a2]<=1048576):ao 109 [.agg [.i a0,.i a1,.s 1 a2]] [.agg [.i a0,.i a1,.s 1 a2]]:=by
 obtain⟨w0,hlim⟩:=hp;simp only[am,Nat.add_zero]at hlim;refine cb LPlan.B Tryz.func109 ?_
 exact o9
theorem sv {a0 a1:Int}{a2:aa}{d:DV}(hp:d=.agg [.i a0,.i a1,.s 1 a2]/\Rw [tI] a2/\am [a2]<=1099511627776):ao 130 [.agg [.i a0,.i a1,.s 1 a2],d] [.k true]:=by
 obtain⟨rfl,w0,hlim⟩:=hp;simp only[am,Nat.add_zero]at hlim;refine cb LPlan.B Tryz.func130 ?_
 exact o9
theorem oj {a0 a1:Int}{a2:aa}{k:Int}(hp:Rw [tI] a2/\am [a2]<=1099511627776/\0<=k/\aX [a2] k<=1152921504606846976):dK 135 [.agg [.i a0,.i a1,.s 1 a2],.j k] [.s 1 (bV a2 k)] [.j (aX [a2] k)]:=by
 obtain⟨w0,hlim,hk0,hkb⟩:=hp;simp only[am,Nat.add_zero]at hlim;have p0:aX [a2] k<=aX [a2] k/\0<=aX [a2] k:=ca (b:=[]) hk0;refine mb MPlan.B [(2,2)] Tryz.func135 ?_
 exact L9
namespace LJob
structure aO where
 szN:List aa->Int->Int
abbrev F0 :aO:=⟨bA⟩
def ct (F:aO):CT:=fun f ds=>match f,ds with
 |96,[.agg [.v (.int .i64 a0),.v (.int .i64 a1),.s 1 a2],.one (.v (.int .i64 left))]=>some (fun _=>Rw [tI] a2/\0<=left/\left<=1048576,[.j (F.szN [a2] left)])
 |109,[.agg [.v (.int .i64 a0),.v (.int .i64 a1),.s 1 a2]]=>some (fun _=>Rw [tI] a2/\am [a2]<=1048576,[.agg [.i a0,.i a1,.s 1 a2]])
 |130,[.agg [.v (.int .i64 a0),.v (.int .i64 a1),.s 1 a2],d]=>some (fun _=>d=.agg [.i a0,.i a1,.s 1 a2]/\Rw [tI] a2/\am [a2]<=1099511627776,[.k true])
 |_,_=>none
theorem aj :aR (ct F0):=by
 intro f ds pre res h hp;unfold ct at h;split at h<;>cases h
 exact sE hp;exact sI hp;exact sv hp
abbrev B :cD:=tb aj
end LJob
namespace MJob
structure aO where
 kN:List aa->Int->Int
 mkN:aa->Int->aa
abbrev F0 :aO:=⟨aX,bV⟩
def mt (F:aO):MT:=fun f=>match f with
 | 135=>some fun ds=>match ds with
   |[.agg [.v (.int .i64 a0),.v (.int .i64 a1),.s 1 a2],.one (.v (.int .i64 k))]=>some (fun _=>Rw [tI] a2/\am [a2]<=1099511627776/\0<=k/\aX [a2] k<=1152921504606846976,[.s 1 (F.mkN a2 k)],[.j (F.kN [a2] k)])
   |_=>none
 |_=>none
theorem db :fK (mt F0):=by
 intro f mk h ds pre outs res hm hp;unfold mt at h;split at h
 ·cases h;dsimp only at hm;split at hm
  ·cases hm;exact oj hp
  ·cases hm
 ·cases h
abbrev B :cD:={Φ:=aO,F0:=F0,mt:=mt,hm:=db}
end MJob
theorem uh {a0 a1:Int}{a2:aa}{a3 a4 left:Int}(hp:Rw [tI] a2/\0<=left/\left<=1048576):ao 24 [.agg [.i a0,.i a1,.s 1 a2,.i a3,.i a4],.j left] [.j (bA [a2] left)]:=by
 obtain⟨w0,h0,h1⟩:=hp;refine cb LJob.B Tryz.func24 ?_
 exact LM
theorem ui {a0 a1:Int}{a2:aa}{a3 a4:Int}(hp:Rw [tI] a2/\am [a2]<=1048576):ao 36 [.agg [.i a0,.i a1,.s 1 a2,.i a3,.i a4]] [.agg [.i a0,.i a1,.s 1 a2,.i a3,.i a4]]:=by
 obtain⟨w0,hlim⟩:=hp;simp only[am,Nat.add_zero]at hlim;refine cb LJob.B Tryz.func36 ?_
 exact o9
theorem uf {a0 a1:Int}{a2:aa}{a3 a4:Int}{d:DV}(hp:d=.agg [.i a0,.i a1,.s 1 a2,.i a3,.i a4]/\Rw [tI] a2/\am [a2]<=1099511627776):ao 53 [.agg [.i a0,.i a1,.s 1 a2,.i a3,.i a4],d] [.k true]:=by
 obtain⟨rfl,w0,hlim⟩:=hp;simp only[am,Nat.add_zero]at hlim;refine cb LJob.B Tryz.func53 ?_
 exact o9
theorem qe {a0 a1:Int}{a2:aa}{a3 a4 k:Int}(hp:Rw [tI] a2/\am [a2]<=1099511627776/\0<=k/\aX [a2] k<=1152921504606846976):dK 62 [.agg [.i a0,.i a1,.s 1 a2,.i a3,.i a4],.j k] [.s 1 (bV a2 k)] [.j (aX [a2] k)]:=by
 obtain⟨w0,hlim,hk0,hkb⟩:=hp;simp only[am,Nat.add_zero]at hlim;have p0:aX [a2] k<=aX [a2] k/\0<=aX [a2] k:=ca (b:=[]) hk0;refine mb MJob.B [(2,2)] Tryz.func62 ?_
 exact L9
end Go.V