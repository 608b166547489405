/- Contracts. -/
import Derived.Test.YticfhgfgobafbaaGreatS9
set_option linter.all false
namespace Go.V
open Go Go.Proofs
set_option maxRecDepth 1000000
set_option maxHeartbeats 8000000
theorem f9 {es:aa}{left:Int}(hp:Rw [tI] es/\0<=left/\left<=1048576):ao 91 [.one (.s 1 es),.j left] [.j (bA [es] left)]:=by
 obtain⟨hw,h0,h1⟩:=hp;have hc:ak es=es.length:=hw.cnt rfl;have hm:=hw.1;unfold maxLen at hm;have hs:bP .sub .i64 left es.length=left-es.length:=cR (by omega);have hn:bA [es] left=if left<es.length then-1 else left-es.length:=by unfold bA;rw[cG,hc]
 refine cb nB Tryz.func91 ?_
 exact ES
theorem ga {es:aa}(hp:Rw [tI] es/\ak es<=1048576):ao 100 [.one (.s 1 es)] [.one (.s 1 es)]:=by
 obtain⟨hw,hlim⟩:=hp;have hwf:Wf [.i 0] es:=hw.wf;have hlen:=dm hlim;refine cb nB Tryz.func100 ?_
 intro O r F hO hr hF;cbv
 have h0z:bT es [.i 0] 0=O.rep (O.zi (O.ln es)) [.i 0]:=by
  subst hO;rw[cz];rfl
 refine⟨?_,?_,[0,3,4],[3],Int×aa,fun s=>[.reg 4 (.j s.1),.leaf 3 0 ⟨0,0,none,.own (.s 1 s.2)⟩],fun s=>0<=s.1/\s.1.toNat<=es.length/\s.2=bT es [.i 0] s.1.toNat,fun s=>es.length-s.1.toNat,⟨(0,O.rep (O.zi (O.ln es)) [.i 0]),?_,?_⟩,?_⟩
 ·subst hO;exact iB (b:=8) (show es.length*_<=_ by omega) (show es.length<=_ by omega)
 ·subst hO;exact⟨rfl,rfl⟩
 ·exact⟨by omega,Nat.zero_le _,h0z.symm⟩
 ·cbv
 ·rintro⟨i,m⟩ hi;replace hi:0<=i/\i.toNat<=es.length/\m=bT es [.i 0] i.toNat:=hi;obtain⟨g0,g1,hm⟩:=hi;cbv
  repeat' first|apply And.intro|(apply bi<;>intro hb<;>cbv)|(refine ab (O.ar .add .i64 i 1,O.up (.s 1 m) [(O.ad 0 i,0)] [.i (O.gi es i 0)]) ?_ ?_ ?_;focus (cbv;done))
  all_goals(subst hO hr hF;(try simp only[nc]at*);(try simp only[ai,SS,sa,az]at*);(try simp only[mK,List.length_replicate,Int.toNat_natCast]at*);(try have hlt:i<es.length:=by assumption);(try have he:es.getD i.toNat []=[.i (af es i 0)]:=(au hwf g0 hlt).symm))
  all_goals exact EQ
theorem eE {es:aa}{d:DV}(hp:d=.one (.s 1 es)/\Rw [tI] es/\ak es<=1099511627776):ao 9 [.one (.s 1 es),d] [.k true]:=by
 obtain⟨rfl,hw,hlim⟩:=hp;have hwf:Wf [.i 0] es:=hw.wf;have hlen:=dm hlim;refine cb nB Tryz.func9 ?_
 intro O r F hO hr hF;cbv
 apply bi<;>intro hb<;>cbv
 ·(subst hO hr hF;(try simp only[nc]at*);(try simp only[ai,SS,sa,az]at*));exact absurd rfl hb
 ·clear hb;refine⟨[0,1,5],[],Int,fun i=>[.reg 5 (.j i)],fun i=>0<=i/\i.toNat<=es.length,fun i=>es.length-i.toNat,⟨0,?_,?_⟩,?_⟩
  ·exact⟨by omega,Nat.zero_le _⟩
  ·cbv
  ·rintro i hi;replace hi:0<=i/\i.toNat<=es.length:=hi;obtain⟨g0,g1⟩:=hi;cbv
   repeat' first|apply And.intro|(apply bi<;>intro hb<;>cbv)|(refine ab (O.ar .add .i64 i 1) ?_ ?_ ?_;focus (cbv;done))
   all_goals(subst hO hr hF;(try simp only[nc]at*);(try simp only[ai,SS,sa,az]at*);(try have hlt:i<es.length:=by assumption);(try have he:es.getD i.toNat []=[.i (af es i 0)]:=(au hwf g0 hlt).symm))
   all_goals exact Gl
theorem dS {es:aa}{k:Int}(hp:Rw [tI] es/\ak es<=1099511627776/\0<=k/\aX [es] k<=1152921504606846976):dK 12 [.one (.s 1 es),.j k] [.s 1 (bV es k)] [.j (aX [es] k)]:=by
 obtain⟨hw,hlim,hk0,hkb⟩:=hp;have hwf:Wf [.i 0] es:=hw.wf;have hlen:=dm hlim;refine mb nB [(0,0)] Tryz.func12 ?_
 intro O r os F hO hr hos hF;cbv
 refine⟨[0,1,5],[0],Int×Int×aa,fun s=>match s with|(i,k',cur)=>[.reg 5 (.j i),.reg 1 (.j k'),.leaf 0 0 ⟨0,0,some 0,.own (.s 1 cur)⟩],fun s=>0<=s.1/\s.1.toNat<=es.length/\s.2.1=fR es k s.1.toNat/\s.2.2=dA es k s.1.toNat,fun s=>es.length-s.1.toNat,⟨(0,k,es),?_,?_⟩,?_⟩
 ·exact⟨by omega,Nat.zero_le _,cv.symm,cM.symm⟩
 ·cbv
 ·rintro⟨i,k',cur⟩ hi;replace hi:0<=i/\i.toNat<=es.length/\k'=fR es k i.toNat/\cur=dA es k i.toNat:=hi;obtain⟨g0,g1,hk',hc⟩:=hi;cbv
  repeat' first|apply And.intro|(apply bi<;>intro hb<;>cbv)|(refine ab (O.ar .add .i64 i 1,O.ar .add .i64 (k') 1,O.up (.s 1 (cur)) [(O.ad 0 i,0)] [.i (k')]) ?_ ?_ ?_;focus (cbv;done))
  all_goals((try subst hos);subst hO hr hF;(try simp only[nc]at*);(try simp only[ai,SS,sa,az]at*);(try have hlt:i<es.length:=by assumption);(try have he:es.getD i.toNat []=[.i (af es i 0)]:=(au hwf g0 hlt).symm);(try have hcg:cur.getD i.toNat []=[.i (af es i 0)]:=by rw[hc,cL g1];exact he))
  all_goals exact Gj
theorem dR {ms:aa}{k:Int}(hp:∃ es,ms=bV es k/\Rw [tI] es/\ak es<=1099511627776/\0<=k/\aX [ms] k<=1152921504606846976):ao 13 [.one (.s 1 ms),.j k] [.j (aX [ms] k)]:=by
 obtain⟨es,hms,hw,hlim,hk0,hkb⟩:=hp;have hlen:=dm hlim;have hml:ms.length=es.length:=by rw[hms];exact eC
 have hkk:aX [ms] k=aX [es] k:=by rw[hms];exact JU
 have hwm:Wf [.i 0] ms:=by rw[hms];exact xB hw
 have hwf:Wf [.i 0] es:=hw.wf;have hat:∀ n,n<es.length->ms.getD n []=(jk (es.getD n []) (fR es k n)).1:=fun n hn=>by rw[hms];exact HL hn
 refine cb nB Tryz.func13 ?_
 intro O r F hO hr hF;cbv
 refine⟨[0,1,5],[],Int×Int,fun s=>match s with|(i,k')=>[.reg 5 (.j i),.reg 1 (.j k')],fun s=>0<=s.1/\s.1.toNat<=es.length/\s.2=fR es k s.1.toNat,fun s=>es.length-s.1.toNat,⟨(0,k),?_,?_⟩,?_⟩
 ·exact⟨by omega,Nat.zero_le _,cv.symm⟩
 ·cbv
 ·rintro⟨i,k'⟩ hi;replace hi:0<=i/\i.toNat<=es.length/\k'=fR es k i.toNat:=hi;obtain⟨g0,g1,hk'⟩:=hi;cbv
  repeat' first|apply And.intro|(apply bi<;>intro hb<;>cbv)|(refine ab (O.ar .add .i64 i 1,O.ar .add .i64 (k') 1) ?_ ?_ ?_;focus (cbv;done))
  all_goals(subst hO hr hF;(try simp only[nc]at*);(try simp only[ai,SS,sa,az]at*);(try have hltm:i<ms.length:=by assumption);(try have hlt:i<es.length:=by omega);(try rw[eg (n:=es.length) g0 hlt (by omega)]);(try have hlt':i.toNat<es.length:=by omega);(try have he:es.getD i.toNat []=[.i (af es i 0)]:=(au hwf g0 hlt).symm);(try have hct:=eG (es:=es) (n:=i.toNat) (by omega);rw[he]at hct;simp only[dP,gO,Nat.add_zero,Nat.zero_add]at hct);(try have hks:=je (es:=es) (k:=k) hlt';rw[he]at hks;simp only[jk,hC]at hks);(try have hem:([.i (af ms i 0)]:av)=_:=(au hwm g0 hltm).trans (hat i.toNat hlt');rw[he]at hem;simp only[jk,hC,List.cons.injEq,L.v.injEq,Value.int.injEq,Value.bool.injEq,L.s.injEq,true_and,and_true]at hem))
  all_goals have hle1:=bM (es:=es) (n:=i.toNat+1)
  all_goals have hcE:ak es=es.length+be es:=rfl
  all_goals have hk1:=iy (es:=es) (k:=k) (n:=i.toNat)
  all_goals have hk2:=iy (es:=es) (k:=k) (n:=i.toNat+1)
  all_goals have hk3:=pp (es:=es) (k:=k)
  all_goals have hk4:=iy (es:=es) (k:=k) (n:=es.length)
  all_goals have hk5:=ew (es:=es) (m:=0) (n:=i.toNat) g1 (Nat.zero_le _)
  all_goals((have hk6:=ew (es:=es) (m:=i.toNat) (n:=es.length) (Nat.le_refl _) g1);(try have hk7:=ew (es:=es) (m:=i.toNat+1) (n:=es.length) (Nat.le_refl _) hlt'))
  all_goals rw[cv]at hk5
  all_goals((try have hk8:=jd (es:=es) (n:=i.toNat) hlt');(try rw[<-hk']at hem hks))
  all_goals have ha1:bP .add .i64 k' 1=k'+1:=bC (by omega)
  all_goals have ha2:bP .add .i64 (k'+1) 1=k'+1+1:=bC (by omega)
  all_goals have ha3:bP .add .i64 (k'+1+1) 1=k'+1+1+1:=bC (by omega)
  all_goals((have ha4:bP .add .i64 (k'+1+1+1) 1=k'+1+1+1+1:=bC (by omega));(try simp only[ha1,ha2,ha3,ha4]at*))
  all_goals first|exact js hwm g0 hltm|omega|(rw[hk',show i.toNat=es.length from by omega,hk3,hkk];done)|(rw[show(i+1).toNat=i.toNat+1 from by omega,hks];done)|trace_state
namespace LIntSS
structure aO where
 szN:List aa->Int->Int
abbrev F0 :aO:=⟨bA⟩
def ct (F:aO):CT:=fun f ds=>match f,ds with
 |91,[.one (.s 1 es),.one (.v (.int .i64 left))]=>some (fun _=>Rw [tI] es/\0<=left/\left<=1048576,[.j (F.szN [es] left)])
 |100,[.one (.s 1 es)]=>some (fun _=>Rw [tI] es/\ak es<=1048576,[.one (.s 1 es)])
 |9,[.one (.s 1 es),d]=>some (fun _=>d=.one (.s 1 es)/\Rw [tI] es/\ak es<=1099511627776,[.k true])
 |_,_=>none
theorem aj :aR (ct F0):=by
 intro f ds pre res h hp;unfold ct at h;split at h<;>cases h
 exact f9 hp;exact ga hp;exact eE hp
abbrev B :cD:=tb aj
end LIntSS
namespace MIntSS
structure aO where
 kN:List aa->Int->Int
 mkN:aa->Int->aa
abbrev F0 :aO:=⟨aX,bV⟩
def ct (F:aO):CT:=fun f ds=>match f,ds with
 |13,[.one (.s 1 ms),.one (.v (.int .i64 k))]=>some (fun _=>∃ es,ms=bV es k/\Rw [tI] es/\ak es<=1099511627776/\0<=k/\aX [ms] k<=1152921504606846976,[.j (F.kN [ms] k)])
 |_,_=>none
theorem aj :aR (ct F0):=by
 intro f ds pre res h hp;unfold ct at h;split at h<;>cases h
 exact dR hp
def mt (F:aO):MT:=fun f=>match f with
 | 12=>some fun ds=>match ds with
   |[.one (.s 1 es),.one (.v (.int .i64 k))]=>some (fun _=>Rw [tI] es/\ak es<=1099511627776/\0<=k/\aX [es] k<=1152921504606846976,[.s 1 (F.mkN es k)],[.j (F.kN [es] k)])
   |_=>none
 |_=>none
theorem db :fK (mt F0):=by
 intro f mk h ds pre outs res hm hp;unfold mt at h;split at h
 ·cases h;dsimp only at hm;split at hm
  ·cases hm;exact dS hp
  ·cases hm
 ·cases h
abbrev B :cD:={Φ:=aO,F0:=F0,ct:=ct,hc:=aj,mt:=mt,hm:=db}
end MIntSS
theorem fm {es:aa}{left:Int}(hp:Rw [.sl [tI]] es/\0<=left/\left<=1048576):ao 94 [.one (.s 1 es),.j left] [.j (bA [es] left)]:=by
 obtain⟨hw,h0,h1⟩:=hp;have hwf:Wf [.s 1 []] es:=hw.wf;have hm:=hw.1;unfold maxLen at hm;have hs:bP .sub .i64 left es.length=left-es.length:=cR (by omega);have hcE:ak es=es.length+be es:=rfl;have hn:bA [es] left=if left<ak es then-1 else left-ak es:=by unfold bA;rw[cG]
 refine cb LIntSS.B Tryz.func94 ?_
 intro O r F hO hr hF;cbv
 apply bi<;>intro hb<;>cbv
 ·repeat' first|apply And.intro|(apply bi<;>intro hb<;>cbv)
  all_goals exact Is
 have hb0:0<=left-es.length:=by
  (subst hO hr hF;(try simp only[nc]at*);(try simp only[ai,SS,sa,az]at*))
  rw[hs]at hb;exact hb
 clear hb;refine⟨[0,1,5],[],Int×Int,fun s=>match s with|(i,l)=>[.reg 5 (.j i),.reg 1 (.j l)],fun s=>0<=s.1/\s.1.toNat<=es.length/\0<=s.2/\s.2=left-es.length-be (es.take s.1.toNat),fun s=>es.length-s.1.toNat,⟨(0,O.ar .sub .i64 left (O.zi (O.ln es))),?_,?_⟩,?_⟩
 ·(subst hO hr hF;(try simp only[nc]at*);(try simp only[ai,SS,sa,az]at*))
  rw[hs];exact⟨by omega,Nat.zero_le _,hb0,by simp[be]⟩
 ·cbv
 ·rintro⟨i,l⟩ hi;replace hi:0<=i/\i.toNat<=es.length/\0<=l/\l=left-es.length-be (es.take i.toNat):=hi;obtain⟨g0,g1,g2,g3⟩:=hi;cbv
  repeat' first|apply And.intro|(apply bi<;>intro hb<;>cbv)|(refine ab (O.ar .add .i64 i 1,F.szN [O.gs es i 0] l) ?_ ?_ ?_;focus (cbv;done))
  all_goals(subst hO hr hF;(try simp only[nc]at*);(try simp only[ai,SS,sa,az]at*))
  all_goals have hle:=bM (es:=es) (n:=i.toNat)
  all_goals have hsz:=fX (a:=[ax es i 0]) (left:=l)
  all_goals((have hsz2:0<=bA [ax es i 0] l->bA [ax es i 0] l=l-am [ax es i 0]:=lU);(try have hlt:i<es.length:=by assumption);(try have he:es.getD i.toNat []=[.s 1 (ax es i 0)]:=(au hwf g0 hlt).symm);(try rw[eg (n:=es.length) g0 hlt (by omega)]);(try have hr0:Rw [tI] (ax es i 0):=Rw.sub (fs:=[.sl [tI]]) hw (by omega) rfl))
  all_goals exact NC
theorem fo {es:aa}(hp:Rw [.sl [tI]] es/\ak es<=1048576):ao 107 [.one (.s 1 es)] [.one (.s 1 es)]:=by
 obtain⟨hw,hlim⟩:=hp;have hwf:Wf [.s 1 []] es:=hw.wf;have hlen:=dm hlim;refine cb LIntSS.B Tryz.func107 ?_
 intro O r F hO hr hF;cbv
 have h0z:bT es [.s 1 []] 0=O.rep (O.zi (O.ln es)) [.s 1 []]:=by
  subst hO;rw[cz];rfl
 refine⟨?_,?_,[0,3,4],[3],Int×aa,fun s=>[.reg 4 (.j s.1),.leaf 3 0 ⟨0,0,none,.own (.s 1 s.2)⟩],fun s=>0<=s.1/\s.1.toNat<=es.length/\s.2=bT es [.s 1 []] s.1.toNat,fun s=>es.length-s.1.toNat,⟨(0,O.rep (O.zi (O.ln es)) [.s 1 []]),?_,?_⟩,?_⟩
 ·subst hO;exact iB (b:=24) (show es.length*_<=_ by omega) (show es.length<=_ by omega)
 ·subst hO;exact⟨rfl,rfl⟩
 ·exact⟨by omega,Nat.zero_le _,h0z.symm⟩
 ·cbv
 ·rintro⟨i,m⟩ hi;replace hi:0<=i/\i.toNat<=es.length/\m=bT es [.s 1 []] i.toNat:=hi;obtain⟨g0,g1,hm⟩:=hi;cbv
  repeat' first|apply And.intro|(apply bi<;>intro hb<;>cbv)|(refine ab (O.ar .add .i64 i 1,O.up (.s 1 m) [(O.ad 0 i,0)] [.s 1 (O.gs es i 0)]) ?_ ?_ ?_;focus (cbv;done))
  all_goals(subst hO hr hF;(try simp only[nc]at*);(try simp only[ai,SS,sa,az]at*);(try simp only[mK,List.length_replicate,Int.toNat_natCast]at*);(try have hlt:i<es.length:=by assumption);(try have he:es.getD i.toNat []=[.s 1 (ax es i 0)]:=(au hwf g0 hlt).symm);(try rw[eg (n:=es.length) g0 hlt (by omega)]);(try have hr0:Rw [tI] (ax es i 0):=Rw.sub (fs:=[.sl [tI]]) hw (by omega) rfl))
  all_goals exact NB
theorem fk {es:aa}{d:DV}(hp:d=.one (.s 1 es)/\Rw [.sl [tI]] es/\ak es<=1099511627776):ao 128 [.one (.s 1 es),d] [.k true]:=by
 obtain⟨rfl,hw,hlim⟩:=hp;have hwf:Wf [.s 1 []] es:=hw.wf;have hlen:=dm hlim;refine cb LIntSS.B Tryz.func128 ?_
 intro O r F hO hr hF;cbv
 apply bi<;>intro hb<;>cbv
 ·(subst hO hr hF;(try simp only[nc]at*);(try simp only[ai,SS,sa,az]at*));exact absurd rfl hb
 ·clear hb;refine⟨[0,1,5],[],Int,fun i=>[.reg 5 (.j i)],fun i=>0<=i/\i.toNat<=es.length,fun i=>es.length-i.toNat,⟨0,?_,?_⟩,?_⟩
  ·exact⟨by omega,Nat.zero_le _⟩
  ·cbv
  ·rintro i hi;replace hi:0<=i/\i.toNat<=es.length:=hi;obtain⟨g0,g1⟩:=hi;cbv
   repeat' first|apply And.intro|(apply bi<;>intro hb<;>cbv)|(refine ab (O.ar .add .i64 i 1) ?_ ?_ ?_;focus (cbv;done))
   all_goals(subst hO hr hF;(try simp only[nc]at*);(try simp only[ai,SS,sa,az]at*);(try have hlt:i<es.length:=by assumption);(try have he:es.getD i.toNat []=[.s 1 (ax es i 0)]:=(au hwf g0 hlt).symm);(try rw[eg (n:=es.length) g0 hlt (by omega)]);(try have hr0:Rw [tI] (ax es i 0):=Rw.sub (fs:=[.sl [tI]]) hw (by omega) rfl))
   all_goals exact Ir
theorem er {es:aa}{k:Int}(hp:Rw [.sl [tI]] es/\ak es<=1099511627776/\0<=k/\aX [es] k<=1152921504606846976):dK 132 [.one (.s 1 es),.j k] [.s 1 (bV es k)] [.j (aX [es] k)]:=by
 obtain⟨hw,hlim,hk0,hkb⟩:=hp;have hwf:Wf [.s 1 []] es:=hw.wf;have hlen:=dm hlim;refine mb MIntSS.B [(0,0)] Tryz.func132 ?_
 intro O r os F hO hr hos hF;cbv
 refine⟨[0,1,5],[0],Int×Int×aa,fun s=>match s with|(i,k',cur)=>[.reg 5 (.j i),.reg 1 (.j k'),.leaf 0 0 ⟨0,0,some 0,.own (.s 1 cur)⟩],fun s=>0<=s.1/\s.1.toNat<=es.length/\s.2.1=fR es k s.1.toNat/\s.2.2=dA es k s.1.toNat,fun s=>es.length-s.1.toNat,⟨(0,k,es),?_,?_⟩,?_⟩
 ·exact⟨by omega,Nat.zero_le _,cv.symm,cM.symm⟩
 ·cbv
 ·rintro⟨i,k',cur⟩ hi;replace hi:0<=i/\i.toNat<=es.length/\k'=fR es k i.toNat/\cur=dA es k i.toNat:=hi;obtain⟨g0,g1,hk',hc⟩:=hi;cbv
  repeat' first|apply And.intro|(apply bi<;>intro hb<;>cbv)|(refine ab (O.ar .add .i64 i 1,F.kN [O.ps (.s 1 (cur)) [(O.ad 0 i,0)]] (k'),O.up (.s 1 (cur)) [(O.ad 0 i,0)] [.s 1 (F.mkN (O.ps (.s 1 (cur)) [(O.ad 0 i,0)]) (k'))]) ?_ ?_ ?_;focus (cbv;done))
  all_goals((try subst hos);subst hO hr hF;(try simp only[nc]at*);(try simp only[ai,SS,sa,az]at*);(try have hlt:i<es.length:=by assumption);(try have he:es.getD i.toNat []=[.s 1 (ax es i 0)]:=(au hwf g0 hlt).symm);(try have hcg:cur.getD i.toNat []=[.s 1 (ax es i 0)]:=by rw[hc,cL g1];exact he);(try rw[eg (n:=es.length) g0 hlt (by omega)]);(try have hlt':i.toNat<es.length:=by omega);(try have hr0:Rw [tI] (ax es i 0):=Rw.sub (fs:=[.sl [tI]]) hw (by omega) rfl))
  all_goals exact NA
theorem qf {es:aa}{left:Int}(hp:Rw [tB] es/\0<=left/\left<=1048576):ao 214 [.one (.s 1 es),.j left] [.j (bA [es] left)]:=by
 obtain⟨hw,h0,h1⟩:=hp;have hc:ak es=es.length:=hw.cnt rfl;have hm:=hw.1;unfold maxLen at hm;have hs:bP .sub .i64 left es.length=left-es.length:=cR (by omega);have hn:bA [es] left=if left<es.length then-1 else left-es.length:=by unfold bA;rw[cG,hc]
 refine cb nB Tryz.func214 ?_
 exact ES
theorem qk {es:aa}(hp:Rw [tB] es/\ak es<=1048576):ao 217 [.one (.s 1 es)] [.one (.s 1 es)]:=by
 obtain⟨hw,hlim⟩:=hp;have hwf:Wf [.v (.bool false)] es:=hw.wf;have hlen:=dm hlim;refine cb nB Tryz.func217 ?_
 intro O r F hO hr hF;cbv
 have h0z:bT es [.v (.bool false)] 0=O.rep (O.zi (O.ln es)) [.v (.bool false)]:=by
  subst hO;rw[cz];rfl
 refine⟨?_,?_,[0,3,4],[3],Int×aa,fun s=>[.reg 4 (.j s.1),.leaf 3 0 ⟨0,0,none,.own (.s 1 s.2)⟩],fun s=>0<=s.1/\s.1.toNat<=es.length/\s.2=bT es [.v (.bool false)] s.1.toNat,fun s=>es.length-s.1.toNat,⟨(0,O.rep (O.zi (O.ln es)) [.v (.bool false)]),?_,?_⟩,?_⟩
 ·subst hO;exact iB (b:=1) (show es.length*_<=_ by omega) (show es.length<=_ by omega)
 ·subst hO;exact⟨rfl,rfl⟩
 ·exact⟨by omega,Nat.zero_le _,h0z.symm⟩
 ·cbv
 ·rintro⟨i,m⟩ hi;replace hi:0<=i/\i.toNat<=es.length/\m=bT es [.v (.bool false)] i.toNat:=hi;obtain⟨g0,g1,hm⟩:=hi;cbv
  repeat' first|apply And.intro|(apply bi<;>intro hb<;>cbv)|(refine ab (O.ar .add .i64 i 1,O.up (.s 1 m) [(O.ad 0 i,0)] [.v (.bool (O.gb es i 0))]) ?_ ?_ ?_;focus (cbv;done))
  all_goals(subst hO hr hF;(try simp only[nc]at*);(try simp only[ai,SS,sa,az]at*);(try simp only[mK,List.length_replicate,Int.toNat_natCast]at*);(try have hlt:i<es.length:=by assumption);(try have he:es.getD i.toNat []=[.v (.bool (vJ es i 0))]:=(au hwf g0 hlt).symm))
  all_goals exact EQ
theorem pU {es:aa}{d:DV}(hp:d=.one (.s 1 es)/\Rw [tB] es/\ak es<=1099511627776):ao 232 [.one (.s 1 es),d] [.k true]:=by
 obtain⟨rfl,hw,hlim⟩:=hp;have hwf:Wf [.v (.bool false)] es:=hw.wf;have hlen:=dm hlim;refine cb nB Tryz.func232 ?_
 intro O r F hO hr hF;cbv
 apply bi<;>intro hb<;>cbv
 ·(subst hO hr hF;(try simp only[nc]at*);(try simp only[ai,SS,sa,az]at*));exact absurd rfl hb
 ·clear hb;refine⟨[0,1,5],[],Int,fun i=>[.reg 5 (.j i)],fun i=>0<=i/\i.toNat<=es.length,fun i=>es.length-i.toNat,⟨0,?_,?_⟩,?_⟩
  ·exact⟨by omega,Nat.zero_le _⟩
  ·cbv
  ·rintro i hi;replace hi:0<=i/\i.toNat<=es.length:=hi;obtain⟨g0,g1⟩:=hi;cbv
   repeat' first|apply And.intro|(apply bi<;>intro hb<;>cbv)|(refine ab (O.ar .add .i64 i 1) ?_ ?_ ?_;focus (cbv;done))
   all_goals(subst hO hr hF;(try simp only[nc]at*);(try simp only[ai,SS,sa,az]at*);(try have hlt:i<es.length:=by assumption);(try rw[eg (n:=es.length) g0 hlt (by omega)]);(try have he:es.getD i.toNat []=[.v (.bool (vJ es i 0))]:=(au hwf g0 hlt).symm);(try have hct:=eG (es:=es) (n:=i.toNat) (by omega);rw[he]at hct;simp only[dP,gO,Nat.add_zero,Nat.zero_add]at hct))
   all_goals have hle1:=bM (es:=es) (n:=i.toNat+1)
   all_goals have hcE:ak es=es.length+be es:=rfl
   all_goals first|omega|exact js hwf g0 hlt|exact absurd rfl hb|trivial|trace_state
theorem mh {es:aa}{k:Int}(hp:Rw [tB] es/\ak es<=1099511627776/\0<=k/\aX [es] k<=1152921504606846976):dK 235 [.one (.s 1 es),.j k] [.s 1 (bV es k)] [.j (aX [es] k)]:=by
 obtain⟨hw,hlim,hk0,hkb⟩:=hp;have hwf:Wf [.v (.bool false)] es:=hw.wf;have hlen:=dm hlim;refine mb nB [(0,0)] Tryz.func235 ?_
 intro O r os F hO hr hos hF;cbv
 refine⟨[0,1,5],[0],Int×Int×aa,fun s=>match s with|(i,k',cur)=>[.reg 5 (.j i),.reg 1 (.j k'),.leaf 0 0 ⟨0,0,some 0,.own (.s 1 cur)⟩],fun s=>0<=s.1/\s.1.toNat<=es.length/\s.2.1=fR es k s.1.toNat/\s.2.2=dA es k s.1.toNat,fun s=>es.length-s.1.toNat,⟨(0,k,es),?_,?_⟩,?_⟩
 ·exact⟨by omega,Nat.zero_le _,cv.symm,cM.symm⟩
 ·cbv
 ·rintro⟨i,k',cur⟩ hi;replace hi:0<=i/\i.toNat<=es.length/\k'=fR es k i.toNat/\cur=dA es k i.toNat:=hi;obtain⟨g0,g1,hk',hc⟩:=hi;cbv
  repeat' first|apply And.intro|(apply bi<;>intro hb<;>cbv)|(refine ab (O.ar .add .i64 i 1,O.ar .add .i64 (k') 1,O.up (.s 1 (cur)) [(O.ad 0 i,0)] [.v (.bool (O.cmp .eql (O.ar .rem .i64 (k') 3) 0))]) ?_ ?_ ?_;focus (cbv;done))
  all_goals((try subst hos);subst hO hr hF;(try simp only[nc]at*);(try simp only[ai,SS,sa,az]at*);(try have hlt:i<es.length:=by assumption);(try rw[eg (n:=es.length) g0 hlt (by omega)]);(try have hlt':i.toNat<es.length:=by omega);(try have he:es.getD i.toNat []=[.v (.bool (vJ es i 0))]:=(au hwf g0 hlt).symm);(try have hct:=eG (es:=es) (n:=i.toNat) (by omega);rw[he]at hct;simp only[dP,gO,Nat.add_zero,Nat.zero_add]at hct);(try have hks:=je (es:=es) (k:=k) hlt';rw[he]at hks;simp only[jk,hC]at hks);(try have hms:=rr (es:=es) (k:=k) hlt';rw[he]at hms;simp only[jk,hC]at hms))
  all_goals have hle1:=bM (es:=es) (n:=i.toNat+1)
  all_goals have hcE:ak es=es.length+be es:=rfl
  all_goals have hk1:=iy (es:=es) (k:=k) (n:=i.toNat)
  all_goals have hk2:=iy (es:=es) (k:=k) (n:=i.toNat+1)
  all_goals have hk3:=pp (es:=es) (k:=k)
  all_goals have hk4:=iy (es:=es) (k:=k) (n:=es.length)
  all_goals have hk5:=ew (es:=es) (m:=0) (n:=i.toNat) g1 (Nat.zero_le _)
  all_goals((have hk6:=ew (es:=es) (m:=i.toNat) (n:=es.length) (Nat.le_refl _) g1);(try have hk7:=ew (es:=es) (m:=i.toNat+1) (n:=es.length) (Nat.le_refl _) hlt'))
  all_goals rw[cv]at hk5
  all_goals((try have hk8:=jd (es:=es) (n:=i.toNat) hlt');(try have hcl:i.toNat<cur.length:=by rw[hc,jh g1];exact hlt');(try have hcg:cur.getD i.toNat []=[.v (.bool (vJ es i 0))]:=by rw[hc,cL g1];exact he))
  all_goals have ha1:bP .add .i64 k' 1=k'+1:=bC (by omega)
  all_goals have ha2:bP .add .i64 (k'+1) 1=k'+1+1:=bC (by omega)
  all_goals have ha3:bP .add .i64 (k'+1+1) 1=k'+1+1+1:=bC (by omega)
  all_goals((have ha4:bP .add .i64 (k'+1+1+1) 1=k'+1+1+1+1:=bC (by omega));(try simp only[ha1,ha2,ha3,ha4]);(try simp only[az]);(try simp only[rQ,hcg,List.take,List.drop,List.length_cons,List.length_nil,List.nil_append,List.cons_append,List.append_nil,Nat.zero_add,Nat.reduceAdd,cU hcl,List.set_set,List.append_assoc]);(try simp only[pz,hcg,cU hcl,List.getD_cons_zero,List.getD_cons_succ,BQ]);(try simp only[pj hcl,lz hcl,uA hcl,qW hcl,hcg,List.getElem?_cons_zero,List.getElem?_cons_succ]))
  all_goals first|exact⟨g0,hlt⟩|(refine⟨_,_,rfl,?_⟩;simp;done)|omega|(rw[hk',show i.toNat=es.length from by omega,hk3];done)|(rw[hc,show i.toNat=es.length from by omega,rq];rfl)|(rw[show(i+1).toNat=i.toNat+1 from by omega,hks,hk'];done)|(rw[show(i+1).toNat=i.toNat+1 from by omega, <-hms,hc,hk'];rfl)|trace_state
namespace LFrames
structure aO where
 szN:List aa->Int->Int
abbrev F0 :aO:=⟨bA⟩
def ct (F:aO):CT:=fun f ds=>match f,ds with
 |94,[.one (.s 1 es),.one (.v (.int .i64 left))]=>some (fun _=>Rw [.sl [tI]] es/\0<=left/\left<=1048576,[.j (F.szN [es] left)])
 |107,[.one (.s 1 es)]=>some (fun _=>Rw [.sl [tI]] es/\ak es<=1048576,[.one (.s 1 es)])
 |128,[.one (.s 1 es),d]=>some (fun _=>d=.one (.s 1 es)/\Rw [.sl [tI]] es/\ak es<=1099511627776,[.k true])
 |214,[.one (.s 1 es),.one (.v (.int .i64 left))]=>some (fun _=>Rw [tB] es/\0<=left/\left<=1048576,[.j (F.szN [es] left)])
 |217,[.one (.s 1 es)]=>some (fun _=>Rw [tB] es/\ak es<=1048576,[.one (.s 1 es)])
 |232,[.one (.s 1 es),d]=>some (fun _=>d=.one (.s 1 es)/\Rw [tB] es/\ak es<=1099511627776,[.k true])
 |_,_=>none
theorem aj :aR (ct F0):=by
 intro f ds pre res h hp;unfold ct at h;split at h<;>cases h
 exact fm hp;exact fo hp;exact fk hp;exact qf hp;exact qk hp;exact pU hp
abbrev B :cD:=tb aj
end LFrames
namespace MFrames
structure aO where
 kN:List aa->Int->Int
 mkN:aa->Int->aa
abbrev F0 :aO:=⟨aX,bV⟩
def mt (F:aO):MT:=fun f=>match f with
 | 132=>some fun ds=>match ds with
   |[.one (.s 1 es),.one (.v (.int .i64 k))]=>some (fun _=>Rw [.sl [tI]] es/\ak es<=1099511627776/\0<=k/\aX [es] k<=1152921504606846976,[.s 1 (F.mkN es k)],[.j (F.kN [es] k)])
   |_=>none
 | 235=>some fun ds=>match ds with
   |[.one (.s 1 es),.one (.v (.int .i64 k))]=>some (fun _=>Rw [tB] es/\ak es<=1099511627776/\0<=k/\aX [es] k<=1152921504606846976,[.s 1 (F.mkN es k)],[.j (F.kN [es] k)])
   |_=>none
 |_=>none
theorem db :fK (mt F0):=by
 intro f mk h ds pre outs res hm hp;unfold mt at h;split at h
 ·cases h;dsimp only at hm;split at hm
  ·cases hm;exact er hp
  ·cases hm
 ·cases h;dsimp only at hm;split at hm
  ·cases hm;exact mh hp
  ·cases hm
 ·cases h
abbrev B :cD:={Φ:=aO,F0:=F0,mt:=mt,hm:=db}
end MFrames
theorem ox {a0 a1:aa}{left:Int}(hp:Rw [.sl [tI]] a0/\Rw [tB] a1/\0<=left/\left<=1048576):ao 172 [.agg [.s 1 a0,.s 1 a1],.j left] [.j (bA [a0,a1] left)]:=by
 obtain⟨w0,w1,h0,h1⟩:=hp;refine cb LFrames.B Tryz.func172 ?_
 intro O r F hO hr hF;cbv
 repeat' first|apply And.intro|(apply bi<;>intro hb<;>cbv)
 all_goals(subst hO hr hF;(try simp only[nc]at*);(try simp only[ai,SS,sa,az]at*);(try simp(disch:=assumption) only[fW,List.cons_append,List.nil_append]at*))
 all_goals exact LU
theorem oF {a0 a1:aa}(hp:Rw [.sl [tI]] a0/\Rw [tB] a1/\am [a0,a1]<=1048576):ao 179 [.agg [.s 1 a0,.s 1 a1]] [.agg [.s 1 a0,.s 1 a1]]:=by
 obtain⟨w0,w1,hlim⟩:=hp;simp only[am,Nat.add_zero]at hlim;refine cb LFrames.B Tryz.func179 ?_
 exact LR
theorem nX {a0 a1:aa}{d:DV}(hp:d=.agg [.s 1 a0,.s 1 a1]/\Rw [.sl [tI]] a0/\Rw [tB] a1/\am [a0,a1]<=1099511627776):ao 189 [.agg [.s 1 a0,.s 1 a1],d] [.k true]:=by
 obtain⟨rfl,w0,w1,hlim⟩:=hp;simp only[am,Nat.add_zero]at hlim;refine cb LFrames.B Tryz.func189 ?_
 exact LQ
theorem kU {a0 a1:aa}{k:Int}(hp:Rw [.sl [tI]] a0/\Rw [tB] a1/\am [a0,a1]<=1099511627776/\0<=k/\aX [a0,a1] k<=1152921504606846976):dK 193 [.agg [.s 1 a0,.s 1 a1],.j k] [.s 1 (bV a0 k),.s 1 (bV a1 (aX [a0] k))] [.j (aX [a0,a1] k)]:=by
 obtain⟨w0,w1,hlim,hk0,hkb⟩:=hp;simp only[am,Nat.add_zero]at hlim;have p0:aX [a0] k<=aX [a0,a1] k/\0<=aX [a0] k:=ca (b:=[a1]) hk0;have p1:aX [a0,a1] k<=aX [a0,a1] k/\0<=aX [a0,a1] k:=ca (b:=[]) hk0;refine mb MFrames.B [(2,0),(2,1)] Tryz.func193 ?_
 exact L8
theorem qn {a0 a1:Int}(hp:True):ao 238 [.agg [.i a0,.i a1]] [.agg [.i a0,.i a1]]:=by
 refine cb nB Tryz.func238 ?_
 exact o9
theorem pW {a0 a1:Int}{d:DV}(hp:d=.agg [.i a0,.i a1]):ao 245 [.agg [.i a0,.i a1],d] [.k true]:=by
 subst hp;refine cb nB Tryz.func245 ?_
 exact o9
namespace LEntryS
def ct (F:aO):CT:=fun f ds=>match f,ds with
 |238,[.agg [.v (.int .i64 a0),.v (.int .i64 a1)]]=>some (fun _=>True,[.agg [.i a0,.i a1]])
 |245,[.agg [.v (.int .i64 a0),.v (.int .i64 a1)],d]=>some (fun _=>d=.agg [.i a0,.i a1],[.k true])
 |_,_=>none
theorem aj :aR (ct F0):=by
 intro f ds pre res h hp;unfold ct at h;split at h<;>cases h
 exact qn hp;exact pW hp
abbrev B :cD:=tb aj
end LEntryS
theorem ou {es:aa}{left:Int}(hp:Rw [tI,tI] es/\0<=left/\left<=1048576):ao 215 [.one (.s 2 es),.j left] [.j (bA [es] left)]:=by
 obtain⟨hw,h0,h1⟩:=hp;have hc:ak es=es.length:=hw.cnt rfl;have hm:=hw.1;unfold maxLen at hm;have hs:bP .sub .i64 left es.length=left-es.length:=cR (by omega);have hn:bA [es] left=if left<es.length then-1 else left-es.length:=by unfold bA;rw[cG,hc]
 refine cb LEntryS.B Tryz.func215 ?_
 exact ES
theorem oE {es:aa}(hp:Rw [tI,tI] es/\ak es<=1048576):ao 218 [.one (.s 2 es)] [.one (.s 2 es)]:=by
 obtain⟨hw,hlim⟩:=hp;have hwf:Wf [.i 0,.i 0] es:=hw.wf;have hlen:=dm hlim;refine cb LEntryS.B Tryz.func218 ?_
 intro O r F hO hr hF;cbv
 have h0z:bT es [.i 0,.i 0] 0=O.rep (O.zi (O.ln es)) [.i 0,.i 0]:=by
  subst hO;rw[cz];rfl
 refine⟨?_,?_,[0,3,4],[3],Int×aa,fun s=>[.reg 4 (.j s.1),.leaf 3 0 ⟨0,0,none,.own (.s 2 s.2)⟩],fun s=>0<=s.1/\s.1.toNat<=es.length/\s.2=bT es [.i 0,.i 0] s.1.toNat,fun s=>es.length-s.1.toNat,⟨(0,O.rep (O.zi (O.ln es)) [.i 0,.i 0]),?_,?_⟩,?_⟩
 ·subst hO;exact iB (b:=16) (show es.length*_<=_ by omega) (show es.length<=_ by omega)
 ·subst hO;exact⟨rfl,rfl⟩
 ·exact⟨by omega,Nat.zero_le _,h0z.symm⟩
 ·cbv
 ·rintro⟨i,m⟩ hi;replace hi:0<=i/\i.toNat<=es.length/\m=bT es [.i 0,.i 0] i.toNat:=hi;obtain⟨g0,g1,hm⟩:=hi;cbv
  repeat' first|apply And.intro|(apply bi<;>intro hb<;>cbv)|(refine ab (O.ar .add .i64 i 1,O.up (.s 2 m) [(O.ad 0 i,0)] [.i (O.gi es i 0),.i (O.gi es i 1)]) ?_ ?_ ?_;focus (cbv;done))
  all_goals(subst hO hr hF;(try simp only[nc]at*);(try simp only[ai,SS,sa,az]at*);(try simp only[mK,List.length_replicate,Int.toNat_natCast]at*);(try have hlt:i<es.length:=by assumption);(try have he:es.getD i.toNat []=[.i (af es i 0),.i (af es i 1)]:=(au hwf g0 hlt).symm))
  all_goals exact EQ
theorem nW {es:aa}{d:DV}(hp:d=.one (.s 2 es)/\Rw [tI,tI] es/\ak es<=1099511627776):ao 233 [.one (.s 2 es),d] [.k true]:=by
 obtain⟨rfl,hw,hlim⟩:=hp;have hwf:Wf [.i 0,.i 0] es:=hw.wf;have hlen:=dm hlim;refine cb LEntryS.B Tryz.func233 ?_
 intro O r F hO hr hF;cbv
 apply bi<;>intro hb<;>cbv
 ·(subst hO hr hF;(try simp only[nc]at*);(try simp only[ai,SS,sa,az]at*));exact absurd rfl hb
 ·clear hb;refine⟨[0,1,5],[],Int,fun i=>[.reg 5 (.j i)],fun i=>0<=i/\i.toNat<=es.length,fun i=>es.length-i.toNat,⟨0,?_,?_⟩,?_⟩
  ·exact⟨by omega,Nat.zero_le _⟩
  ·cbv
  ·rintro i hi;replace hi:0<=i/\i.toNat<=es.length:=hi;obtain⟨g0,g1⟩:=hi;cbv
   repeat' first|apply And.intro|(apply bi<;>intro hb<;>cbv)|(refine ab (O.ar .add .i64 i 1) ?_ ?_ ?_;focus (cbv;done))
   all_goals(subst hO hr hF;(try simp only[nc]at*);(try simp only[ai,SS,sa,az]at*);(try have hlt:i<es.length:=by assumption);(try have he:es.getD i.toNat []=[.i (af es i 0),.i (af es i 1)]:=(au hwf g0 hlt).symm))
   all_goals exact Gl
theorem kT {es:aa}{k:Int}(hp:Rw [tI,tI] es/\ak es<=1099511627776/\0<=k/\aX [es] k<=1152921504606846976):dK 236 [.one (.s 2 es),.j k] [.s 2 (bV es k)] [.j (aX [es] k)]:=by
 obtain⟨hw,hlim,hk0,hkb⟩:=hp;have hwf:Wf [.i 0,.i 0] es:=hw.wf;have hlen:=dm hlim;refine mb nB [(0,0)] Tryz.func236 ?_
 intro O r os F hO hr hos hF;cbv
 refine⟨[0,1,5],[0],Int×Int×aa,fun s=>match s with|(i,k',cur)=>[.reg 5 (.j i),.reg 1 (.j k'),.leaf 0 0 ⟨0,0,some 0,.own (.s 2 cur)⟩],fun s=>0<=s.1/\s.1.toNat<=es.length/\s.2.1=fR es k s.1.toNat/\s.2.2=dA es k s.1.toNat,fun s=>es.length-s.1.toNat,⟨(0,k,es),?_,?_⟩,?_⟩
 ·exact⟨by omega,Nat.zero_le _,cv.symm,cM.symm⟩
 ·cbv
 ·rintro⟨i,k',cur⟩ hi;replace hi:0<=i/\i.toNat<=es.length/\k'=fR es k i.toNat/\cur=dA es k i.toNat:=hi;obtain⟨g0,g1,hk',hc⟩:=hi;cbv
  repeat' first|apply And.intro|(apply bi<;>intro hb<;>cbv)|(refine ab (O.ar .add .i64 i 1,O.ar .add .i64 (O.ar .add .i64 (k') 1) 1,O.up (.s 2 (O.up (.s 2 (cur)) [(O.ad 0 i,0)] [.i (k')])) [(O.ad 0 i,1)] [.i (O.ar .add .i64 (k') 1)]) ?_ ?_ ?_;focus (cbv;done))
  all_goals((try subst hos);subst hO hr hF;(try simp only[nc]at*);(try simp only[ai,SS,sa,az]at*);(try have hlt:i<es.length:=by assumption);(try have he:es.getD i.toNat []=[.i (af es i 0),.i (af es i 1)]:=(au hwf g0 hlt).symm);(try have hcg:cur.getD i.toNat []=[.i (af es i 0),.i (af es i 1)]:=by rw[hc,cL g1];exact he))
  all_goals exact Gj
namespace LTable
structure aO where
 szN:List aa->Int->Int
abbrev F0 :aO:=⟨bA⟩
def ct (F:aO):CT:=fun f ds=>match f,ds with
 |215,[.one (.s 2 es),.one (.v (.int .i64 left))]=>some (fun _=>Rw [tI,tI] es/\0<=left/\left<=1048576,[.j (F.szN [es] left)])
 |218,[.one (.s 2 es)]=>some (fun _=>Rw [tI,tI] es/\ak es<=1048576,[.one (.s 2 es)])
 |233,[.one (.s 2 es),d]=>some (fun _=>d=.one (.s 2 es)/\Rw [tI,tI] es/\ak es<=1099511627776,[.k true])
 |_,_=>none
theorem aj :aR (ct F0):=by
 intro f ds pre res h hp;unfold ct at h;split at h<;>cases h
 exact ou hp;exact oE hp;exact nW hp
abbrev B :cD:=tb aj
end LTable
namespace MTable
structure aO where
 kN:List aa->Int->Int
 mkN:aa->Int->aa
abbrev F0 :aO:=⟨aX,bV⟩
def mt (F:aO):MT:=fun f=>match f with
 | 236=>some fun ds=>match ds with
   |[.one (.s 2 es),.one (.v (.int .i64 k))]=>some (fun _=>Rw [tI,tI] es/\ak es<=1099511627776/\0<=k/\aX [es] k<=1152921504606846976,[.s 2 (F.mkN es k)],[.j (F.kN [es] k)])
   |_=>none
 |_=>none
theorem db :fK (mt F0):=by
 intro f mk h ds pre outs res hm hp;unfold mt at h;split at h
 ·cases h;dsimp only at hm;split at hm
  ·cases hm;exact kT hp
  ·cases hm
 ·cases h
abbrev B :cD:={Φ:=aO,F0:=F0,mt:=mt,hm:=db}
end MTable
theorem qj {a0:aa}{left:Int}(hp:Rw [tI,tI] a0/\0<=left/\left<=1048576):ao 173 [.agg [.s 2 a0],.j left] [.j (bA [a0] left)]:=by
 obtain⟨w0,h0,h1⟩:=hp;refine cb LTable.B Tryz.func173 ?_
 intro O r F hO hr hF;cbv
 repeat' first|apply And.intro|(apply bi<;>intro hb<;>cbv)
 all_goals(subst hO hr hF;(try simp only[nc]at*);(try simp only[ai,SS,sa,az]at*);(try simp(disch:=assumption) only[fW,List.cons_append,List.nil_append]at*))
 all_goals first|trivial|(rw[fE (by assumption)])|trace_state
theorem qv {a0:aa}(hp:Rw [tI,tI] a0/\am [a0]<=1048576):ao 180 [.agg [.s 2 a0]] [.agg [.s 2 a0]]:=by
 obtain⟨w0,hlim⟩:=hp;simp only[am,Nat.add_zero]at hlim;refine cb LTable.B Tryz.func180 ?_
 exact o9
theorem qd {a0:aa}{d:DV}(hp:d=.agg [.s 2 a0]/\Rw [tI,tI] a0/\am [a0]<=1099511627776):ao 190 [.agg [.s 2 a0],d] [.k true]:=by
 obtain⟨rfl,w0,hlim⟩:=hp;simp only[am,Nat.add_zero]at hlim;refine cb LTable.B Tryz.func190 ?_
 exact o9
theorem mn {a0:aa}{k:Int}(hp:Rw [tI,tI] a0/\am [a0]<=1099511627776/\0<=k/\aX [a0] k<=1152921504606846976):dK 194 [.agg [.s 2 a0],.j k] [.s 2 (bV a0 k)] [.j (aX [a0] k)]:=by
 obtain⟨w0,hlim,hk0,hkb⟩:=hp;simp only[am,Nat.add_zero]at hlim;have p0:aX [a0] k<=aX [a0] k/\0<=aX [a0] k:=ca (b:=[]) hk0;refine mb MTable.B [(2,0)] Tryz.func194 ?_
 exact L9
namespace LMachine
structure aO where
 szN:List aa->Int->Int
abbrev F0 :aO:=⟨bA⟩
def ct (F:aO):CT:=fun f ds=>match f,ds with
 |172,[.agg [.s 1 a0,.s 1 a1],.one (.v (.int .i64 left))]=>some (fun _=>Rw [.sl [tI]] a0/\Rw [tB] a1/\0<=left/\left<=1048576,[.j (F.szN [a0,a1] left)])
 |179,[.agg [.s 1 a0,.s 1 a1]]=>some (fun _=>Rw [.sl [tI]] a0/\Rw [tB] a1/\am [a0,a1]<=1048576,[.agg [.s 1 a0,.s 1 a1]])
 |189,[.agg [.s 1 a0,.s 1 a1],d]=>some (fun _=>d=.agg [.s 1 a0,.s 1 a1]/\Rw [.sl [tI]] a0/\Rw [tB] a1/\am [a0,a1]<=1099511627776,[.k true])
 |173,[.agg [.s 2 a0],.one (.v (.int .i64 left))]=>some (fun _=>Rw [tI,tI] a0/\0<=left/\left<=1048576,[.j (F.szN [a0] left)])
 |180,[.agg [.s 2 a0]]=>some (fun _=>Rw [tI,tI] a0/\am [a0]<=1048576,[.agg [.s 2 a0]])
 |190,[.agg [.s 2 a0],d]=>some (fun _=>d=.agg [.s 2 a0]/\Rw [tI,tI] a0/\am [a0]<=1099511627776,[.k true])
 |_,_=>none
theorem aj :aR (ct F0):=by
 intro f ds pre res h hp;unfold ct at h;split at h<;>cases h
 exact ox hp;exact oF hp;exact nX hp;exact qj hp;exact qv hp;exact qd hp
abbrev B :cD:=tb aj
end LMachine
namespace MMachine
structure aO where
 kN:List aa->Int->Int
 mkN:aa->Int->aa
abbrev F0 :aO:=⟨aX,bV⟩
def mt (F:aO):MT:=fun f=>match f with
 | 193=>some fun ds=>match ds with
   |[.agg [.s 1 a0,.s 1 a1],.one (.v (.int .i64 k))]=>some (fun _=>Rw [.sl [tI]] a0/\Rw [tB] a1/\am [a0,a1]<=1099511627776/\0<=k/\aX [a0,a1] k<=1152921504606846976,[.s 1 (F.mkN a0 k),.s 1 (F.mkN a1 (F.kN [a0] k))],[.j (F.kN [a0,a1] k)])
   |_=>none
 | 194=>some fun ds=>match ds with
   |[.agg [.s 2 a0],.one (.v (.int .i64 k))]=>some (fun _=>Rw [tI,tI] a0/\am [a0]<=1099511627776/\0<=k/\aX [a0] k<=1152921504606846976,[.s 2 (F.mkN a0 k)],[.j (F.kN [a0] k)])
   |_=>none
 |_=>none
theorem db :fK (mt F0):=by
 intro f mk h ds pre outs res hm hp;unfold mt at h;split at h
 ·cases h;dsimp only at hm;split at hm
  ·cases hm;exact kU hp
  ·cases hm
 ·cases h;dsimp only at hm;split at hm
  ·cases hm;exact mn hp
  ·cases hm
 ·cases h
abbrev B :cD:={Φ:=aO,F0:=F0,mt:=mt,hm:=db}
end MMachine
theorem mo {a0 a1 a2:aa}{left:Int}(hp:Rw [.sl [tI]] a0/\Rw [tB] a1/\Rw [tI,tI] a2/\0<=left/\left<=1048576):ao 90 [.agg [.s 1 a0,.s 1 a1,.s 2 a2],.j left] [.j (bA [a0,a1,a2] left)]:=by
 obtain⟨w0,w1,w2,h0,h1⟩:=hp;refine cb LMachine.B Tryz.func90 ?_
 intro O r F hO hr hF;cbv
 repeat' first|apply And.intro|(apply bi<;>intro hb<;>cbv)
 all_goals(subst hO hr hF;(try simp only[nc]at*);(try simp only[ai,SS,sa,az]at*);(try simp(disch:=assumption) only[fW,List.cons_append,List.nil_append]at*))
 all_goals first|trivial|(refine⟨by assumption,by omega,by first|omega|exact Int.le_trans (rO (by assumption)) h1⟩)|(rw[fE (by assumption)])|exact congrArg (fun x=>[DV.one (L.v (Value.int IntKind.i64 x))]) (dD (a:=[a0,a1]) (b:=[a2]) (by assumption)).symm|trace_state
theorem mq {a0 a1 a2:aa}(hp:Rw [.sl [tI]] a0/\Rw [tB] a1/\Rw [tI,tI] a2/\am [a0,a1,a2]<=1048576):ao 99 [.agg [.s 1 a0,.s 1 a1,.s 2 a2]] [.agg [.s 1 a0,.s 1 a1,.s 2 a2]]:=by
 obtain⟨w0,w1,w2,hlim⟩:=hp;simp only[am,Nat.add_zero]at hlim;refine cb LMachine.B Tryz.func99 ?_
 intro O r F hO hr hF;cbv
 repeat' first|apply And.intro|(apply bi<;>intro hb<;>cbv)
 all_goals(subst hO hr hF;(try simp only[nc]at*);(try simp only[ai,SS,sa,az]at*))
 all_goals first|trivial|(refine⟨by assumption,?_⟩;(try simp only[am,Nat.add_zero]);omega)|(refine⟨by assumption,by assumption,?_⟩;(try simp only[am,Nat.add_zero]);omega)|trace_state
theorem mg {a0 a1 a2:aa}{d:DV}(hp:d=.agg [.s 1 a0,.s 1 a1,.s 2 a2]/\Rw [.sl [tI]] a0/\Rw [tB] a1/\Rw [tI,tI] a2/\am [a0,a1,a2]<=1099511627776):ao 121 [.agg [.s 1 a0,.s 1 a1,.s 2 a2],d] [.k true]:=by
 obtain⟨rfl,w0,w1,w2,hlim⟩:=hp;simp only[am,Nat.add_zero]at hlim;refine cb LMachine.B Tryz.func121 ?_
 intro O r F hO hr hF;cbv
 repeat' first|apply And.intro|(apply bi<;>intro hb<;>cbv)
 all_goals(subst hO hr hF;(try simp only[nc]at*);(try simp only[ai,SS,sa,az]at*))
 all_goals first|trivial|(refine⟨trivial,by assumption,?_⟩;(try simp only[am,Nat.add_zero]);omega)|(refine⟨trivial,by assumption,by assumption,?_⟩;(try simp only[am,Nat.add_zero]);omega)|trace_state
theorem ki {a0 a1 a2:aa}{k:Int}(hp:Rw [.sl [tI]] a0/\Rw [tB] a1/\Rw [tI,tI] a2/\am [a0,a1,a2]<=1099511627776/\0<=k/\aX [a0,a1,a2] k<=1152921504606846976):dK 131 [.agg [.s 1 a0,.s 1 a1,.s 2 a2],.j k] [.s 1 (bV a0 k),.s 1 (bV a1 (aX [a0] k)),.s 2 (bV a2 (aX [a0,a1] k))] [.j (aX [a0,a1,a2] k)]:=by
 obtain⟨w0,w1,w2,hlim,hk0,hkb⟩:=hp;simp only[am,Nat.add_zero]at hlim;have p0:aX [a0] k<=aX [a0,a1,a2] k/\0<=aX [a0] k:=ca (b:=[a1,a2]) hk0;have p1:aX [a0,a1] k<=aX [a0,a1,a2] k/\0<=aX [a0,a1] k:=ca (b:=[a2]) hk0;have p2:aX [a0,a1,a2] k<=aX [a0,a1,a2] k/\0<=aX [a0,a1,a2] k:=ca (b:=[]) hk0;refine mb MMachine.B [(2,0),(2,1),(2,2)] Tryz.func131 ?_
 exact L8
namespace LKernel
structure aO where
 szN:List aa->Int->Int
abbrev F0 :aO:=⟨bA⟩
def ct (F:aO):CT:=fun f ds=>match f,ds with
 |90,[.agg [.s 1 a0,.s 1 a1,.s 2 a2],.one (.v (.int .i64 left))]=>some (fun _=>Rw [.sl [tI]] a0/\Rw [tB] a1/\Rw [tI,tI] a2/\0<=left/\left<=1048576,[.j (F.szN [a0,a1,a2] left)])
 |99,[.agg [.s 1 a0,.s 1 a1,.s 2 a2]]=>some (fun _=>Rw [.sl [tI]] a0/\Rw [tB] a1/\Rw [tI,tI] a2/\am [a0,a1,a2]<=1048576,[.agg [.s 1 a0,.s 1 a1,.s 2 a2]])
 |121,[.agg [.s 1 a0,.s 1 a1,.s 2 a2],d]=>some (fun _=>d=.agg [.s 1 a0,.s 1 a1,.s 2 a2]/\Rw [.sl [tI]] a0/\Rw [tB] a1/\Rw [tI,tI] a2/\am [a0,a1,a2]<=1099511627776,[.k true])
 |91,[.one (.s 1 es),.one (.v (.int .i64 left))]=>some (fun _=>Rw [tI] es/\0<=left/\left<=1048576,[.j (F.szN [es] left)])
 |100,[.one (.s 1 es)]=>some (fun _=>Rw [tI] es/\ak es<=1048576,[.one (.s 1 es)])
 |9,[.one (.s 1 es),d]=>some (fun _=>d=.one (.s 1 es)/\Rw [tI] es/\ak es<=1099511627776,[.k true])
 |_,_=>none
theorem aj :aR (ct F0):=by
 intro f ds pre res h hp;unfold ct at h;split at h<;>cases h
 exact mo hp;exact mq hp;exact mg hp;exact f9 hp;exact ga hp;exact eE hp
abbrev B :cD:=tb aj
end LKernel
namespace MKernel
structure aO where
 kN:List aa->Int->Int
 mkN:aa->Int->aa
abbrev F0 :aO:=⟨aX,bV⟩
def ct (F:aO):CT:=fun f ds=>match f,ds with
 |13,[.one (.s 1 ms),.one (.v (.int .i64 k))]=>some (fun _=>∃ es,ms=bV es k/\Rw [tI] es/\ak es<=1099511627776/\0<=k/\aX [ms] k<=1152921504606846976,[.j (F.kN [ms] k)])
 |_,_=>none
theorem aj :aR (ct F0):=by
 intro f ds pre res h hp;unfold ct at h;split at h<;>cases h
 exact dR hp
def mt (F:aO):MT:=fun f=>match f with
 | 131=>some fun ds=>match ds with
   |[.agg [.s 1 a0,.s 1 a1,.s 2 a2],.one (.v (.int .i64 k))]=>some (fun _=>Rw [.sl [tI]] a0/\Rw [tB] a1/\Rw [tI,tI] a2/\am [a0,a1,a2]<=1099511627776/\0<=k/\aX [a0,a1,a2] k<=1152921504606846976,[.s 1 (F.mkN a0 k),.s 1 (F.mkN a1 (F.kN [a0] k)),.s 2 (F.mkN a2 (F.kN [a0,a1] k))],[.j (F.kN [a0,a1,a2] k)])
   |_=>none
 | 12=>some fun ds=>match ds with
   |[.one (.s 1 es),.one (.v (.int .i64 k))]=>some (fun _=>Rw [tI] es/\ak es<=1099511627776/\0<=k/\aX [es] k<=1152921504606846976,[.s 1 (F.mkN es k)],[.j (F.kN [es] k)])
   |_=>none
 |_=>none
theorem db :fK (mt F0):=by
 intro f mk h ds pre outs res hm hp;unfold mt at h;split at h
 ·cases h;dsimp only at hm;split at hm
  ·cases hm;exact ki hp
  ·cases hm
 ·cases h;dsimp only at hm;split at hm
  ·cases hm;exact dS hp
  ·cases hm
 ·cases h
abbrev B :cD:={Φ:=aO,F0:=F0,ct:=ct,hc:=aj,mt:=mt,hm:=db}
end MKernel
theorem oy {a0 a1 a2:aa}{a3:Int}{a4:aa}{left:Int}(hp:Rw [.sl [tI]] a0/\Rw [tB] a1/\Rw [tI,tI] a2/\Rw [tI] a4/\0<=left/\left<=1048576):ao 16 [.agg [.s 1 a0,.s 1 a1,.s 2 a2,.i a3,.s 1 a4],.j left] [.j (bA [a0,a1,a2,a4] left)]:=by
 obtain⟨w0,w1,w2,w3,h0,h1⟩:=hp;refine cb LKernel.B Tryz.func16 ?_
 intro O r F hO hr hF;cbv
 repeat' first|apply And.intro|(apply bi<;>intro hb<;>cbv)
 all_goals(subst hO hr hF;(try simp only[nc]at*);(try simp only[ai,SS,sa,az]at*);(try simp(disch:=assumption) only[fW,List.cons_append,List.nil_append]at*))
 all_goals first|trivial|(refine⟨by assumption,by omega,by first|omega|exact Int.le_trans (rO (by assumption)) h1⟩)|(rw[fE (by assumption)])|exact congrArg (fun x=>[DV.one (L.v (Value.int IntKind.i64 x))]) (dD (a:=[a0,a1,a2]) (b:=[a4]) (by assumption)).symm|trace_state
theorem oG {a0 a1 a2:aa}{a3:Int}{a4:aa}(hp:Rw [.sl [tI]] a0/\Rw [tB] a1/\Rw [tI,tI] a2/\Rw [tI] a4/\am [a0,a1,a2,a4]<=1048576):ao 28 [.agg [.s 1 a0,.s 1 a1,.s 2 a2,.i a3,.s 1 a4]] [.agg [.s 1 a0,.s 1 a1,.s 2 a2,.i a3,.s 1 a4]]:=by
 obtain⟨w0,w1,w2,w3,hlim⟩:=hp;simp only[am,Nat.add_zero]at hlim;refine cb LKernel.B Tryz.func28 ?_
 intro O r F hO hr hF;cbv
 repeat' first|apply And.intro|(apply bi<;>intro hb<;>cbv)
 all_goals(subst hO hr hF;(try simp only[nc]at*);(try simp only[ai,SS,sa,az]at*))
 all_goals first|trivial|(refine⟨by assumption,?_⟩;(try simp only[am,Nat.add_zero]);omega)|(refine⟨by assumption,by assumption,by assumption,?_⟩;(try simp only[am,Nat.add_zero]);omega)|trace_state
theorem nY {a0 a1 a2:aa}{a3:Int}{a4:aa}{d:DV}(hp:d=.agg [.s 1 a0,.s 1 a1,.s 2 a2,.i a3,.s 1 a4]/\Rw [.sl [tI]] a0/\Rw [tB] a1/\Rw [tI,tI] a2/\Rw [tI] a4/\am [a0,a1,a2,a4]<=1099511627776):ao 45 [.agg [.s 1 a0,.s 1 a1,.s 2 a2,.i a3,.s 1 a4],d] [.k true]:=by
 obtain⟨rfl,w0,w1,w2,w3,hlim⟩:=hp;simp only[am,Nat.add_zero]at hlim;refine cb LKernel.B Tryz.func45 ?_
 intro O r F hO hr hF;cbv
 repeat' first|apply And.intro|(apply bi<;>intro hb<;>cbv)
 all_goals(subst hO hr hF;(try simp only[nc]at*);(try simp only[ai,SS,sa,az]at*))
 all_goals first|trivial|(refine⟨trivial,by assumption,?_⟩;(try simp only[am,Nat.add_zero]);omega)|(refine⟨trivial,by assumption,by assumption,by assumption,?_⟩;(try simp only[am,Nat.add_zero]);omega)|trace_state
theorem kV {a0 a1 a2:aa}{a3:Int}{a4:aa}{k:Int}(hp:Rw [.sl [tI]] a0/\Rw [tB] a1/\Rw [tI,tI] a2/\Rw [tI] a4/\am [a0,a1,a2,a4]<=1099511627776/\0<=k/\aX [a0,a1,a2,a4] k<=1152921504606846976):dK 54 [.agg [.s 1 a0,.s 1 a1,.s 2 a2,.i a3,.s 1 a4],.j k] [.s 1 (bV a0 k),.s 1 (bV a1 (aX [a0] k)),.s 2 (bV a2 (aX [a0,a1] k)),.s 1 (bV a4 (aX [a0,a1,a2] k))] [.j (aX [a0,a1,a2,a4] k)]:=by
 obtain⟨w0,w1,w2,w3,hlim,hk0,hkb⟩:=hp;simp only[am,Nat.add_zero]at hlim;have p0:aX [a0] k<=aX [a0,a1,a2,a4] k/\0<=aX [a0] k:=ca (b:=[a1,a2,a4]) hk0;have p1:aX [a0,a1] k<=aX [a0,a1,a2,a4] k/\0<=aX [a0,a1] k:=ca (b:=[a2,a4]) hk0;have p2:aX [a0,a1,a2] k<=aX [a0,a1,a2,a4] k/\0<=aX [a0,a1,a2] k:=ca (b:=[a4]) hk0;have p3:aX [a0,a1,a2,a4] k<=aX [a0,a1,a2,a4] k/\0<=aX [a0,a1,a2,a4] k:=ca (b:=[]) hk0;refine mb MKernel.B [(2,0),(2,1),(2,2),(2,4)] Tryz.func54 ?_
 exact L8
end Go.V