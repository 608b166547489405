/- Contracts. -/
import Derived.Test.YtllcfbgmhgodhaaGreatS11
set_option linter.all false
namespace Go.V
open Go Go.Proofs
set_option maxRecDepth 1000000
set_option maxHeartbeats 8000000
theorem iH {es:aa}{left:Int}(hp:Rw [tI] es/\0<=left/\left<=1048576):au 111 [.one (.s 1 es),.j left] [.j (bK [es] left)]:=by
 obtain⟨hw,h0,h1⟩:=hp;have hc:ah es=es.length:=hw.cnt rfl;have hm:=hw.1;unfold maxLen at hm;have hs:bF .sub .i64 left es.length=left-es.length:=cR (by omega);have hn:bK [es] left=if left<es.length then-1 else left-es.length:=by unfold bK;rw[dd,hc]
 refine cb nB Tryz.func111 ?_
 exact J2
theorem iJ {es:aa}(hp:Rw [tI] es/\ah es<=1048576):au 136 [.one (.s 1 es)] [.one (.s 1 es)]:=by
 obtain⟨hw,hlim⟩:=hp;have hwf:Wf [.i 0] es:=hw.wf;have hlen:=cV hlim;refine cb nB Tryz.func136 ?_
 intro O r F hO hr hF;cbv
 have h0z:cd es [.i 0] 0=O.rep (O.zi (O.ln es)) [.i 0]:=by
  subst hO;rw[cO];rfl
 refine⟨?_,?_,[0,3,4],[3],Int×aa,fun s=>[.reg 4 (.j s.1),.leaf 3 0 ⟨0,0,none,.own (.s 1 s.2)⟩],fun s=>0<=s.1/\s.1.toNat<=es.length/\s.2=cd es [.i 0] s.1.toNat,fun s=>es.length-s.1.toNat,⟨(0,O.rep (O.zi (O.ln es)) [.i 0]),?_,?_⟩,?_⟩
 ·subst hO;exact ke (b:=8) (show es.length*_<=_ by omega) (show es.length<=_ by omega)
 ·subst hO;exact⟨rfl,rfl⟩
 ·exact⟨by omega,Nat.zero_le _,h0z.symm⟩
 ·cbv
 ·rintro⟨i,m⟩ hi;replace hi:0<=i/\i.toNat<=es.length/\m=cd es [.i 0] i.toNat:=hi;obtain⟨g0,g1,hm⟩:=hi;cbv
  repeat' first|apply And.intro|(apply be<;>intro hb<;>cbv)|(refine ab (O.ar .add .i64 i 1,O.up (.s 1 m) [(O.ad 0 i,0)] [.i (O.gi es i 0)]) ?_ ?_ ?_;focus (cbv;done))
  all_goals(subst hO hr hF;(try simp only[nc]at*);(try simp only[aj,SS,sa,az]at*);(try simp only[jK,List.length_replicate,Int.toNat_natCast]at*);(try have hlt:i<es.length:=by assumption);(try have he:es.getD i.toNat []=[.i (ag es i 0)]:=(av hwf g0 hlt).symm))
  all_goals exact JZ
theorem iF {es:aa}{d:DV}(hp:d=.one (.s 1 es)/\Rw [tI] es/\ah es<=1099511627776):au 165 [.one (.s 1 es),d] [.k true]:=by
 obtain⟨rfl,hw,hlim⟩:=hp;have hwf:Wf [.i 0] es:=hw.wf;have hlen:=cV hlim;refine cb nB Tryz.func165 ?_
 intro O r F hO hr hF;cbv
 apply be<;>intro hb<;>cbv
 ·(subst hO hr hF;(try simp only[nc]at*);(try simp only[aj,SS,sa,az]at*));exact absurd rfl hb
 ·clear hb;refine⟨[0,1,5],[],Int,fun i=>[.reg 5 (.j i)],fun i=>0<=i/\i.toNat<=es.length,fun i=>es.length-i.toNat,⟨0,?_,?_⟩,?_⟩
  ·exact⟨by omega,Nat.zero_le _⟩
  ·cbv
  ·rintro i hi;replace hi:0<=i/\i.toNat<=es.length:=hi;obtain⟨g0,g1⟩:=hi;cbv
   repeat' first|apply And.intro|(apply be<;>intro hb<;>cbv)|(refine ab (O.ar .add .i64 i 1) ?_ ?_ ?_;focus (cbv;done))
   all_goals(subst hO hr hF;(try simp only[nc]at*);(try simp only[aj,SS,sa,az]at*);(try have hlt:i<es.length:=by assumption);(try have he:es.getD i.toNat []=[.i (ag es i 0)]:=(av hwf g0 hlt).symm))
   all_goals exact LO
theorem fZ {es:aa}{k:Int}(hp:Rw [tI] es/\ah es<=1099511627776/\0<=k/\ao [es] k<=1152921504606846976):eg 176 [.one (.s 1 es),.j k] [.s 1 (am es k)] [.j (ao [es] k)]:=by
 obtain⟨hw,hlim,hk0,hkb⟩:=hp;have hwf:Wf [.i 0] es:=hw.wf;have hlen:=cV hlim;refine mb nB [(0,0)] Tryz.func176 ?_
 intro O r os F hO hr hos hF;cbv
 refine⟨[0,1,5],[0],Int×Int×aa,fun s=>match s with|(i,k',cur)=>[.reg 5 (.j i),.reg 1 (.j k'),.leaf 0 0 ⟨0,0,some 0,.own (.s 1 cur)⟩],fun s=>0<=s.1/\s.1.toNat<=es.length/\s.2.1=dL es k s.1.toNat/\s.2.2=dW es k s.1.toNat,fun s=>es.length-s.1.toNat,⟨(0,k,es),?_,?_⟩,?_⟩
 ·exact⟨by omega,Nat.zero_le _,bJ.symm,dh.symm⟩
 ·cbv
 ·rintro⟨i,k',cur⟩ hi;replace hi:0<=i/\i.toNat<=es.length/\k'=dL es k i.toNat/\cur=dW es k i.toNat:=hi;obtain⟨g0,g1,hk',hc⟩:=hi;cbv
  repeat' first|apply And.intro|(apply be<;>intro hb<;>cbv)|(refine ab (O.ar .add .i64 i 1,O.ar .add .i64 (k') 1,O.up (.s 1 (cur)) [(O.ad 0 i,0)] [.i (k')]) ?_ ?_ ?_;focus (cbv;done))
  all_goals((try subst hos);subst hO hr hF;(try simp only[nc]at*);(try simp only[aj,SS,sa,az]at*);(try have hlt:i<es.length:=by assumption);(try have he:es.getD i.toNat []=[.i (ag es i 0)]:=(av hwf g0 hlt).symm);(try have hcg:cur.getD i.toNat []=[.i (ag es i 0)]:=by rw[hc,de g1];exact he))
  all_goals exact LM
theorem fX {ms:aa}{k:Int}(hp:∃ es,ms=am es k/\Rw [tI] es/\ah es<=1099511627776/\0<=k/\ao [ms] k<=1152921504606846976):au 182 [.one (.s 1 ms),.j k] [.j (ao [ms] k)]:=by
 obtain⟨es,hms,hw,hlim,hk0,hkb⟩:=hp;have hlen:=cV hlim;have hml:ms.length=es.length:=by rw[hms];exact bZ
 have hkk:ao [ms] k=ao [es] k:=by rw[hms];exact j9
 have hwm:Wf [.i 0] ms:=by rw[hms];exact cN hw
 have hwf:Wf [.i 0] es:=hw.wf;have hat:∀ n,n<es.length->ms.getD n []=(eA (es.getD n []) (dL es k n)).1:=fun n hn=>by rw[hms];exact gd hn
 refine cb nB Tryz.func182 ?_
 intro O r F hO hr hF;cbv
 refine⟨[0,1,5],[],Int×Int,fun s=>match s with|(i,k')=>[.reg 5 (.j i),.reg 1 (.j k')],fun s=>0<=s.1/\s.1.toNat<=es.length/\s.2=dL es k s.1.toNat,fun s=>es.length-s.1.toNat,⟨(0,k),?_,?_⟩,?_⟩
 ·exact⟨by omega,Nat.zero_le _,bJ.symm⟩
 ·cbv
 ·rintro⟨i,k'⟩ hi;replace hi:0<=i/\i.toNat<=es.length/\k'=dL es k i.toNat:=hi;obtain⟨g0,g1,hk'⟩:=hi;cbv
  repeat' first|apply And.intro|(apply be<;>intro hb<;>cbv)|(refine ab (O.ar .add .i64 i 1,O.ar .add .i64 (k') 1) ?_ ?_ ?_;focus (cbv;done))
  all_goals(subst hO hr hF;(try simp only[nc]at*);(try simp only[aj,SS,sa,az]at*);(try have hltm:i<ms.length:=by assumption);(try have hlt:i<es.length:=by omega);(try rw[dj (n:=es.length) g0 hlt (by omega)]);(try have hlt':i.toNat<es.length:=by omega);(try have he:es.getD i.toNat []=[.i (ag es i 0)]:=(av hwf g0 hlt).symm);(try have hct:=cB (es:=es) (n:=i.toNat) (by omega);rw[he]at hct;simp only[cI,eC,Nat.add_zero,Nat.zero_add]at hct);(try have hks:=cP (es:=es) (k:=k) hlt';rw[he]at hks;simp only[eA,eQ]at hks);(try have hem:([.i (ag ms i 0)]:aP)=_:=(av hwm g0 hltm).trans (hat i.toNat hlt');rw[he]at hem;simp only[eA,eQ,List.cons.injEq,L.v.injEq,Value.int.injEq,Value.bool.injEq,L.s.injEq,true_and,and_true]at hem))
  all_goals have hle1:=bH (es:=es) (n:=i.toNat+1)
  all_goals have hcE:ah es=es.length+bD es:=rfl
  all_goals have hk1:=fg (es:=es) (k:=k) (n:=i.toNat)
  all_goals have hk2:=fg (es:=es) (k:=k) (n:=i.toNat+1)
  all_goals have hk3:=lD (es:=es) (k:=k)
  all_goals have hk4:=fg (es:=es) (k:=k) (n:=es.length)
  all_goals have hk5:=dJ (es:=es) (m:=0) (n:=i.toNat) g1 (Nat.zero_le _)
  all_goals((have hk6:=dJ (es:=es) (m:=i.toNat) (n:=es.length) (Nat.le_refl _) g1);(try have hk7:=dJ (es:=es) (m:=i.toNat+1) (n:=es.length) (Nat.le_refl _) hlt'))
  all_goals rw[bJ]at hk5
  all_goals((try have hk8:=gV (es:=es) (n:=i.toNat) hlt');(try rw[<-hk']at hem hks))
  all_goals have ha1:bF .add .i64 k' 1=k'+1:=bc (by omega)
  all_goals have ha2:bF .add .i64 (k'+1) 1=k'+1+1:=bc (by omega)
  all_goals have ha3:bF .add .i64 (k'+1+1) 1=k'+1+1+1:=bc (by omega)
  all_goals((have ha4:bF .add .i64 (k'+1+1+1) 1=k'+1+1+1+1:=bc (by omega));(try simp only[ha1,ha2,ha3,ha4]at*))
  all_goals first|exact iR hwm g0 hltm|omega|(rw[hk',show i.toNat=es.length from by omega,hk3,hkk];done)|(rw[show(i+1).toNat=i.toNat+1 from by omega,hks];done)|trace_state
namespace LIntSS
structure aQ where
 szN:List aa->Int->Int
abbrev F0 :aQ:=⟨bK⟩
def ct (F:aQ):CT:=fun f ds=>match f,ds with
 |111,[.one (.s 1 es),.one (.v (.int .i64 left))]=>some (fun _=>Rw [tI] es/\0<=left/\left<=1048576,[.j (F.szN [es] left)])
 |136,[.one (.s 1 es)]=>some (fun _=>Rw [tI] es/\ah es<=1048576,[.one (.s 1 es)])
 |165,[.one (.s 1 es),d]=>some (fun _=>d=.one (.s 1 es)/\Rw [tI] es/\ah es<=1099511627776,[.k true])
 |_,_=>none
theorem ai :aS (ct F0):=by
 intro f ds pre res h hp;unfold ct at h;split at h<;>cases h
 exact iH hp;exact iJ hp;exact iF hp
abbrev B :cy:=tb ai
end LIntSS
namespace MIntSS
structure aQ where
 kN:List aa->Int->Int
 mkN:aa->Int->aa
abbrev F0 :aQ:=⟨ao,am⟩
def ct (F:aQ):CT:=fun f ds=>match f,ds with
 |182,[.one (.s 1 ms),.one (.v (.int .i64 k))]=>some (fun _=>∃ es,ms=am es k/\Rw [tI] es/\ah es<=1099511627776/\0<=k/\ao [ms] k<=1152921504606846976,[.j (F.kN [ms] k)])
 |_,_=>none
theorem ai :aS (ct F0):=by
 intro f ds pre res h hp;unfold ct at h;split at h<;>cases h
 exact fX hp
def mt (F:aQ):MT:=fun f=>match f with
 | 176=>some fun ds=>match ds with
   |[.one (.s 1 es),.one (.v (.int .i64 k))]=>some (fun _=>Rw [tI] es/\ah es<=1099511627776/\0<=k/\ao [es] k<=1152921504606846976,[.s 1 (F.mkN es k)],[.j (F.kN [es] k)])
   |_=>none
 |_=>none
theorem cW :gh (mt F0):=by
 intro f mk h ds pre outs res hm hp;unfold mt at h;split at h
 ·cases h;dsimp only at hm;split at hm
  ·cases hm;exact fZ hp
  ·cases hm
 ·cases h
abbrev B :cy:={Φ:=aQ,F0:=F0,ct:=ct,hc:=ai,mt:=mt,hm:=cW}
end MIntSS
theorem gK {es:aa}{left:Int}(hp:Rw [.sl [tI]] es/\0<=left/\left<=1048576):au 114 [.one (.s 1 es),.j left] [.j (bK [es] left)]:=by
 obtain⟨hw,h0,h1⟩:=hp;have hwf:Wf [.s 1 []] es:=hw.wf;have hm:=hw.1;unfold maxLen at hm;have hs:bF .sub .i64 left es.length=left-es.length:=cR (by omega);have hcE:ah es=es.length+bD es:=rfl;have hn:bK [es] left=if left<ah es then-1 else left-ah es:=by unfold bK;rw[dd]
 refine cb LIntSS.B Tryz.func114 ?_
 intro O r F hO hr hF;cbv
 apply be<;>intro hb<;>cbv
 ·repeat' first|apply And.intro|(apply be<;>intro hb<;>cbv)
  all_goals exact Oo
 have hb0:0<=left-es.length:=by
  (subst hO hr hF;(try simp only[nc]at*);(try simp only[aj,SS,sa,az]at*))
  rw[hs]at hb;exact hb
 clear hb;refine⟨[0,1,5],[],Int×Int,fun s=>match s with|(i,l)=>[.reg 5 (.j i),.reg 1 (.j l)],fun s=>0<=s.1/\s.1.toNat<=es.length/\0<=s.2/\s.2=left-es.length-bD (es.take s.1.toNat),fun s=>es.length-s.1.toNat,⟨(0,O.ar .sub .i64 left (O.zi (O.ln es))),?_,?_⟩,?_⟩
 ·(subst hO hr hF;(try simp only[nc]at*);(try simp only[aj,SS,sa,az]at*))
  rw[hs];exact⟨by omega,Nat.zero_le _,hb0,by simp[bD]⟩
 ·cbv
 ·rintro⟨i,l⟩ hi;replace hi:0<=i/\i.toNat<=es.length/\0<=l/\l=left-es.length-bD (es.take i.toNat):=hi;obtain⟨g0,g1,g2,g3⟩:=hi;cbv
  repeat' first|apply And.intro|(apply be<;>intro hb<;>cbv)|(refine ab (O.ar .add .i64 i 1,F.szN [O.gs es i 0] l) ?_ ?_ ?_;focus (cbv;done))
  all_goals(subst hO hr hF;(try simp only[nc]at*);(try simp only[aj,SS,sa,az]at*))
  all_goals have hle:=bH (es:=es) (n:=i.toNat)
  all_goals have hsz:=gy (a:=[aR es i 0]) (left:=l)
  all_goals((have hsz2:0<=bK [aR es i 0] l->bK [aR es i 0] l=l-aw [aR es i 0]:=oH);(try have hlt:i<es.length:=by assumption);(try have he:es.getD i.toNat []=[.s 1 (aR es i 0)]:=(av hwf g0 hlt).symm);(try rw[dj (n:=es.length) g0 hlt (by omega)]);(try have hr0:Rw [tI] (aR es i 0):=Rw.sub (fs:=[.sl [tI]]) hw (by omega) rfl))
  all_goals exact Ol
theorem gL {es:aa}(hp:Rw [.sl [tI]] es/\ah es<=1048576):au 143 [.one (.s 1 es)] [.one (.s 1 es)]:=by
 obtain⟨hw,hlim⟩:=hp;have hwf:Wf [.s 1 []] es:=hw.wf;have hlen:=cV hlim;refine cb LIntSS.B Tryz.func143 ?_
 intro O r F hO hr hF;cbv
 have h0z:cd es [.s 1 []] 0=O.rep (O.zi (O.ln es)) [.s 1 []]:=by
  subst hO;rw[cO];rfl
 refine⟨?_,?_,[0,3,4],[3],Int×aa,fun s=>[.reg 4 (.j s.1),.leaf 3 0 ⟨0,0,none,.own (.s 1 s.2)⟩],fun s=>0<=s.1/\s.1.toNat<=es.length/\s.2=cd es [.s 1 []] s.1.toNat,fun s=>es.length-s.1.toNat,⟨(0,O.rep (O.zi (O.ln es)) [.s 1 []]),?_,?_⟩,?_⟩
 ·subst hO;exact ke (b:=24) (show es.length*_<=_ by omega) (show es.length<=_ by omega)
 ·subst hO;exact⟨rfl,rfl⟩
 ·exact⟨by omega,Nat.zero_le _,h0z.symm⟩
 ·cbv
 ·rintro⟨i,m⟩ hi;replace hi:0<=i/\i.toNat<=es.length/\m=cd es [.s 1 []] i.toNat:=hi;obtain⟨g0,g1,hm⟩:=hi;cbv
  repeat' first|apply And.intro|(apply be<;>intro hb<;>cbv)|(refine ab (O.ar .add .i64 i 1,O.up (.s 1 m) [(O.ad 0 i,0)] [.s 1 (O.gs es i 0)]) ?_ ?_ ?_;focus (cbv;done))
  all_goals(subst hO hr hF;(try simp only[nc]at*);(try simp only[aj,SS,sa,az]at*);(try simp only[jK,List.length_replicate,Int.toNat_natCast]at*);(try have hlt:i<es.length:=by assumption);(try have he:es.getD i.toNat []=[.s 1 (aR es i 0)]:=(av hwf g0 hlt).symm);(try rw[dj (n:=es.length) g0 hlt (by omega)]);(try have hr0:Rw [tI] (aR es i 0):=Rw.sub (fs:=[.sl [tI]]) hw (by omega) rfl))
  all_goals exact Oj
theorem gJ {es:aa}{d:DV}(hp:d=.one (.s 1 es)/\Rw [.sl [tI]] es/\ah es<=1099511627776):au 172 [.one (.s 1 es),d] [.k true]:=by
 obtain⟨rfl,hw,hlim⟩:=hp;have hwf:Wf [.s 1 []] es:=hw.wf;have hlen:=cV hlim;refine cb LIntSS.B Tryz.func172 ?_
 intro O r F hO hr hF;cbv
 apply be<;>intro hb<;>cbv
 ·(subst hO hr hF;(try simp only[nc]at*);(try simp only[aj,SS,sa,az]at*));exact absurd rfl hb
 ·clear hb;refine⟨[0,1,5],[],Int,fun i=>[.reg 5 (.j i)],fun i=>0<=i/\i.toNat<=es.length,fun i=>es.length-i.toNat,⟨0,?_,?_⟩,?_⟩
  ·exact⟨by omega,Nat.zero_le _⟩
  ·cbv
  ·rintro i hi;replace hi:0<=i/\i.toNat<=es.length:=hi;obtain⟨g0,g1⟩:=hi;cbv
   repeat' first|apply And.intro|(apply be<;>intro hb<;>cbv)|(refine ab (O.ar .add .i64 i 1) ?_ ?_ ?_;focus (cbv;done))
   all_goals(subst hO hr hF;(try simp only[nc]at*);(try simp only[aj,SS,sa,az]at*);(try have hlt:i<es.length:=by assumption);(try have he:es.getD i.toNat []=[.s 1 (aR es i 0)]:=(av hwf g0 hlt).symm);(try rw[dj (n:=es.length) g0 hlt (by omega)]);(try have hr0:Rw [tI] (aR es i 0):=Rw.sub (fs:=[.sl [tI]]) hw (by omega) rfl))
   all_goals exact Om
theorem fo {es:aa}{k:Int}(hp:Rw [.sl [tI]] es/\ah es<=1099511627776/\0<=k/\ao [es] k<=1152921504606846976):eg 177 [.one (.s 1 es),.j k] [.s 1 (am es k)] [.j (ao [es] k)]:=by
 obtain⟨hw,hlim,hk0,hkb⟩:=hp;have hwf:Wf [.s 1 []] es:=hw.wf;have hlen:=cV hlim;refine mb MIntSS.B [(0,0)] Tryz.func177 ?_
 intro O r os F hO hr hos hF;cbv
 refine⟨[0,1,5],[0],Int×Int×aa,fun s=>match s with|(i,k',cur)=>[.reg 5 (.j i),.reg 1 (.j k'),.leaf 0 0 ⟨0,0,some 0,.own (.s 1 cur)⟩],fun s=>0<=s.1/\s.1.toNat<=es.length/\s.2.1=dL es k s.1.toNat/\s.2.2=dW es k s.1.toNat,fun s=>es.length-s.1.toNat,⟨(0,k,es),?_,?_⟩,?_⟩
 ·exact⟨by omega,Nat.zero_le _,bJ.symm,dh.symm⟩
 ·cbv
 ·rintro⟨i,k',cur⟩ hi;replace hi:0<=i/\i.toNat<=es.length/\k'=dL es k i.toNat/\cur=dW es k i.toNat:=hi;obtain⟨g0,g1,hk',hc⟩:=hi;cbv
  repeat' first|apply And.intro|(apply be<;>intro hb<;>cbv)|(refine ab (O.ar .add .i64 i 1,F.kN [O.ps (.s 1 (cur)) [(O.ad 0 i,0)]] (k'),O.up (.s 1 (cur)) [(O.ad 0 i,0)] [.s 1 (F.mkN (O.ps (.s 1 (cur)) [(O.ad 0 i,0)]) (k'))]) ?_ ?_ ?_;focus (cbv;done))
  all_goals((try subst hos);subst hO hr hF;(try simp only[nc]at*);(try simp only[aj,SS,sa,az]at*);(try have hlt:i<es.length:=by assumption);(try have he:es.getD i.toNat []=[.s 1 (aR es i 0)]:=(av hwf g0 hlt).symm);(try have hcg:cur.getD i.toNat []=[.s 1 (aR es i 0)]:=by rw[hc,de g1];exact he);(try rw[dj (n:=es.length) g0 hlt (by omega)]);(try have hlt':i.toNat<es.length:=by omega);(try have hr0:Rw [tI] (aR es i 0):=Rw.sub (fs:=[.sl [tI]]) hw (by omega) rfl))
  all_goals exact Vi
theorem fm {ms:aa}{k:Int}(hp:∃ es,ms=am es k/\Rw [.sl [tI]] es/\ah es<=1099511627776/\0<=k/\ao [ms] k<=1152921504606846976):au 183 [.one (.s 1 ms),.j k] [.j (ao [ms] k)]:=by
 obtain⟨es,hms,hw,hlim,hk0,hkb⟩:=hp;have hlen:=cV hlim;have hml:ms.length=es.length:=by rw[hms];exact bZ
 have hkk:ao [ms] k=ao [es] k:=by rw[hms];exact j9
 have hwm:Wf [.s 1 []] ms:=by rw[hms];exact cN hw
 have hwf:Wf [.s 1 []] es:=hw.wf;have hat:∀ n,n<es.length->ms.getD n []=(eA (es.getD n []) (dL es k n)).1:=fun n hn=>by rw[hms];exact gd hn
 refine cb MIntSS.B Tryz.func183 ?_
 intro O r F hO hr hF;cbv
 refine⟨[0,1,5],[],Int×Int,fun s=>match s with|(i,k')=>[.reg 5 (.j i),.reg 1 (.j k')],fun s=>0<=s.1/\s.1.toNat<=es.length/\s.2=dL es k s.1.toNat,fun s=>es.length-s.1.toNat,⟨(0,k),?_,?_⟩,?_⟩
 ·exact⟨by omega,Nat.zero_le _,bJ.symm⟩
 ·cbv
 ·rintro⟨i,k'⟩ hi;replace hi:0<=i/\i.toNat<=es.length/\k'=dL es k i.toNat:=hi;obtain⟨g0,g1,hk'⟩:=hi;cbv
  repeat' first|apply And.intro|(apply be<;>intro hb<;>cbv)|(refine ab (O.ar .add .i64 i 1,F.kN [O.gs ms i 0] (k')) ?_ ?_ ?_;focus (cbv;done))
  all_goals(subst hO hr hF;(try simp only[nc]at*);(try simp only[aj,SS,sa,az]at*);(try have hltm:i<ms.length:=by assumption);(try have hlt:i<es.length:=by omega);(try have he:es.getD i.toNat []=[.s 1 (aR es i 0)]:=(av hwf g0 hlt).symm);(try rw[dj (n:=es.length) g0 hlt (by omega)]);(try have hlt':i.toNat<es.length:=by omega);(try have hr0:Rw [tI] (aR es i 0):=Rw.sub (fs:=[.sl [tI]]) hw (by omega) rfl);(try have hct:=cB (es:=es) (n:=i.toNat) (by omega);rw[he]at hct;simp only[cI,eC,Nat.add_zero,Nat.zero_add]at hct);(try have hks:=cP (es:=es) (k:=k) hlt';rw[he]at hks;simp only[eA,eQ]at hks);(try have hem:([.s 1 (aR ms i 0)]:aP)=_:=(av hwm g0 hltm).trans (hat i.toNat hlt');rw[he]at hem;simp only[eA,eQ,List.cons.injEq,L.v.injEq,Value.int.injEq,Value.bool.injEq,L.s.injEq,true_and,and_true]at hem))
  all_goals exact Vj
theorem tX {es:aa}{left:Int}(hp:Rw [tB] es/\0<=left/\left<=1048576):au 314 [.one (.s 1 es),.j left] [.j (bK [es] left)]:=by
 obtain⟨hw,h0,h1⟩:=hp;have hc:ah es=es.length:=hw.cnt rfl;have hm:=hw.1;unfold maxLen at hm;have hs:bF .sub .i64 left es.length=left-es.length:=cR (by omega);have hn:bK [es] left=if left<es.length then-1 else left-es.length:=by unfold bK;rw[dd,hc]
 refine cb nB Tryz.func314 ?_
 exact J2
theorem t8 {es:aa}(hp:Rw [tB] es/\ah es<=1048576):au 326 [.one (.s 1 es)] [.one (.s 1 es)]:=by
 obtain⟨hw,hlim⟩:=hp;have hwf:Wf [.v (.bool false)] es:=hw.wf;have hlen:=cV hlim;refine cb nB Tryz.func326 ?_
 intro O r F hO hr hF;cbv
 have h0z:cd es [.v (.bool false)] 0=O.rep (O.zi (O.ln es)) [.v (.bool false)]:=by
  subst hO;rw[cO];rfl
 refine⟨?_,?_,[0,3,4],[3],Int×aa,fun s=>[.reg 4 (.j s.1),.leaf 3 0 ⟨0,0,none,.own (.s 1 s.2)⟩],fun s=>0<=s.1/\s.1.toNat<=es.length/\s.2=cd es [.v (.bool false)] s.1.toNat,fun s=>es.length-s.1.toNat,⟨(0,O.rep (O.zi (O.ln es)) [.v (.bool false)]),?_,?_⟩,?_⟩
 ·subst hO;exact ke (b:=1) (show es.length*_<=_ by omega) (show es.length<=_ by omega)
 ·subst hO;exact⟨rfl,rfl⟩
 ·exact⟨by omega,Nat.zero_le _,h0z.symm⟩
 ·cbv
 ·rintro⟨i,m⟩ hi;replace hi:0<=i/\i.toNat<=es.length/\m=cd es [.v (.bool false)] i.toNat:=hi;obtain⟨g0,g1,hm⟩:=hi;cbv
  repeat' first|apply And.intro|(apply be<;>intro hb<;>cbv)|(refine ab (O.ar .add .i64 i 1,O.up (.s 1 m) [(O.ad 0 i,0)] [.v (.bool (O.gb es i 0))]) ?_ ?_ ?_;focus (cbv;done))
  all_goals(subst hO hr hF;(try simp only[nc]at*);(try simp only[aj,SS,sa,az]at*);(try simp only[jK,List.length_replicate,Int.toNat_natCast]at*);(try have hlt:i<es.length:=by assumption);(try have he:es.getD i.toNat []=[.v (.bool (nT es i 0))]:=(av hwf g0 hlt).symm))
  all_goals exact JZ
theorem tL {es:aa}{d:DV}(hp:d=.one (.s 1 es)/\Rw [tB] es/\ah es<=1099511627776):au 338 [.one (.s 1 es),d] [.k true]:=by
 obtain⟨rfl,hw,hlim⟩:=hp;have hwf:Wf [.v (.bool false)] es:=hw.wf;have hlen:=cV hlim;refine cb nB Tryz.func338 ?_
 intro O r F hO hr hF;cbv
 apply be<;>intro hb<;>cbv
 ·(subst hO hr hF;(try simp only[nc]at*);(try simp only[aj,SS,sa,az]at*));exact absurd rfl hb
 ·clear hb;refine⟨[0,1,5],[],Int,fun i=>[.reg 5 (.j i)],fun i=>0<=i/\i.toNat<=es.length,fun i=>es.length-i.toNat,⟨0,?_,?_⟩,?_⟩
  ·exact⟨by omega,Nat.zero_le _⟩
  ·cbv
  ·rintro i hi;replace hi:0<=i/\i.toNat<=es.length:=hi;obtain⟨g0,g1⟩:=hi;cbv
   repeat' first|apply And.intro|(apply be<;>intro hb<;>cbv)|(refine ab (O.ar .add .i64 i 1) ?_ ?_ ?_;focus (cbv;done))
   all_goals(subst hO hr hF;(try simp only[nc]at*);(try simp only[aj,SS,sa,az]at*);(try have hlt:i<es.length:=by assumption);(try rw[dj (n:=es.length) g0 hlt (by omega)]);(try have he:es.getD i.toNat []=[.v (.bool (nT es i 0))]:=(av hwf g0 hlt).symm);(try have hct:=cB (es:=es) (n:=i.toNat) (by omega);rw[he]at hct;simp only[cI,eC,Nat.add_zero,Nat.zero_add]at hct))
   all_goals have hle1:=bH (es:=es) (n:=i.toNat+1)
   all_goals have hcE:ah es=es.length+bD es:=rfl
   all_goals first|omega|exact iR hwf g0 hlt|exact absurd rfl hb|trivial|trace_state
theorem pc {es:aa}{k:Int}(hp:Rw [tB] es/\ah es<=1099511627776/\0<=k/\ao [es] k<=1152921504606846976):eg 341 [.one (.s 1 es),.j k] [.s 1 (am es k)] [.j (ao [es] k)]:=by
 obtain⟨hw,hlim,hk0,hkb⟩:=hp;have hwf:Wf [.v (.bool false)] es:=hw.wf;have hlen:=cV hlim;refine mb nB [(0,0)] Tryz.func341 ?_
 intro O r os F hO hr hos hF;cbv
 refine⟨[0,1,5],[0],Int×Int×aa,fun s=>match s with|(i,k',cur)=>[.reg 5 (.j i),.reg 1 (.j k'),.leaf 0 0 ⟨0,0,some 0,.own (.s 1 cur)⟩],fun s=>0<=s.1/\s.1.toNat<=es.length/\s.2.1=dL es k s.1.toNat/\s.2.2=dW es k s.1.toNat,fun s=>es.length-s.1.toNat,⟨(0,k,es),?_,?_⟩,?_⟩
 ·exact⟨by omega,Nat.zero_le _,bJ.symm,dh.symm⟩
 ·cbv
 ·rintro⟨i,k',cur⟩ hi;replace hi:0<=i/\i.toNat<=es.length/\k'=dL es k i.toNat/\cur=dW es k i.toNat:=hi;obtain⟨g0,g1,hk',hc⟩:=hi;cbv
  repeat' first|apply And.intro|(apply be<;>intro hb<;>cbv)|(refine ab (O.ar .add .i64 i 1,O.ar .add .i64 (k') 1,O.up (.s 1 (cur)) [(O.ad 0 i,0)] [.v (.bool (O.cmp .eql (O.ar .rem .i64 (k') 3) 0))]) ?_ ?_ ?_;focus (cbv;done))
  all_goals((try subst hos);subst hO hr hF;(try simp only[nc]at*);(try simp only[aj,SS,sa,az]at*);(try have hlt:i<es.length:=by assumption);(try rw[dj (n:=es.length) g0 hlt (by omega)]);(try have hlt':i.toNat<es.length:=by omega);(try have he:es.getD i.toNat []=[.v (.bool (nT es i 0))]:=(av hwf g0 hlt).symm);(try have hct:=cB (es:=es) (n:=i.toNat) (by omega);rw[he]at hct;simp only[cI,eC,Nat.add_zero,Nat.zero_add]at hct);(try have hks:=cP (es:=es) (k:=k) hlt';rw[he]at hks;simp only[eA,eQ]at hks);(try have hms:=vq (es:=es) (k:=k) hlt';rw[he]at hms;simp only[eA,eQ]at hms))
  all_goals have hle1:=bH (es:=es) (n:=i.toNat+1)
  all_goals have hcE:ah es=es.length+bD es:=rfl
  all_goals have hk1:=fg (es:=es) (k:=k) (n:=i.toNat)
  all_goals have hk2:=fg (es:=es) (k:=k) (n:=i.toNat+1)
  all_goals have hk3:=lD (es:=es) (k:=k)
  all_goals have hk4:=fg (es:=es) (k:=k) (n:=es.length)
  all_goals have hk5:=dJ (es:=es) (m:=0) (n:=i.toNat) g1 (Nat.zero_le _)
  all_goals((have hk6:=dJ (es:=es) (m:=i.toNat) (n:=es.length) (Nat.le_refl _) g1);(try have hk7:=dJ (es:=es) (m:=i.toNat+1) (n:=es.length) (Nat.le_refl _) hlt'))
  all_goals rw[bJ]at hk5
  all_goals((try have hk8:=gV (es:=es) (n:=i.toNat) hlt');(try have hcl:i.toNat<cur.length:=by rw[hc,kS g1];exact hlt');(try have hcg:cur.getD i.toNat []=[.v (.bool (nT es i 0))]:=by rw[hc,de g1];exact he))
  all_goals have ha1:bF .add .i64 k' 1=k'+1:=bc (by omega)
  all_goals have ha2:bF .add .i64 (k'+1) 1=k'+1+1:=bc (by omega)
  all_goals have ha3:bF .add .i64 (k'+1+1) 1=k'+1+1+1:=bc (by omega)
  all_goals((have ha4:bF .add .i64 (k'+1+1+1) 1=k'+1+1+1+1:=bc (by omega));(try simp only[ha1,ha2,ha3,ha4]);(try simp only[az]);(try simp only[vV,hcg,List.take,List.drop,List.length_cons,List.length_nil,List.nil_append,List.cons_append,List.append_nil,Nat.zero_add,Nat.reduceAdd,dr hcl,List.set_set,List.append_assoc]);(try simp only[ou,hcg,dr hcl,List.getD_cons_zero,List.getD_cons_succ,E7]);(try simp only[sR hcl,nU hcl,sS hcl,uZ hcl,hcg,List.getElem?_cons_zero,List.getElem?_cons_succ]))
  all_goals first|exact⟨g0,hlt⟩|(refine⟨_,_,rfl,?_⟩;simp;done)|omega|(rw[hk',show i.toNat=es.length from by omega,hk3];done)|(rw[hc,show i.toNat=es.length from by omega,vp];rfl)|(rw[show(i+1).toNat=i.toNat+1 from by omega,hks,hk'];done)|(rw[show(i+1).toNat=i.toNat+1 from by omega, <-hms,hc,hk'];rfl)|trace_state
theorem o7 {ms:aa}{k:Int}(hp:∃ es,ms=am es k/\Rw [tB] es/\ah es<=1099511627776/\0<=k/\ao [ms] k<=1152921504606846976):au 343 [.one (.s 1 ms),.j k] [.j (ao [ms] k)]:=by
 obtain⟨es,hms,hw,hlim,hk0,hkb⟩:=hp;have hlen:=cV hlim;have hml:ms.length=es.length:=by rw[hms];exact bZ
 have hkk:ao [ms] k=ao [es] k:=by rw[hms];exact j9
 have hwm:Wf [.v (.bool false)] ms:=by rw[hms];exact cN hw
 have hwf:Wf [.v (.bool false)] es:=hw.wf;have hat:∀ n,n<es.length->ms.getD n []=(eA (es.getD n []) (dL es k n)).1:=fun n hn=>by rw[hms];exact gd hn
 refine cb nB Tryz.func343 ?_
 intro O r F hO hr hF;cbv
 refine⟨[0,1,5],[],Int×Int,fun s=>match s with|(i,k')=>[.reg 5 (.j i),.reg 1 (.j k')],fun s=>0<=s.1/\s.1.toNat<=es.length/\s.2=dL es k s.1.toNat,fun s=>es.length-s.1.toNat,⟨(0,k),?_,?_⟩,?_⟩
 ·exact⟨by omega,Nat.zero_le _,bJ.symm⟩
 ·cbv
 ·rintro⟨i,k'⟩ hi;replace hi:0<=i/\i.toNat<=es.length/\k'=dL es k i.toNat:=hi;obtain⟨g0,g1,hk'⟩:=hi;cbv
  repeat' first|apply And.intro|(apply be<;>intro hb<;>cbv)|(refine ab (O.ar .add .i64 i 1,O.ar .add .i64 (k') 1) ?_ ?_ ?_;focus (cbv;done))
  all_goals(subst hO hr hF;(try simp only[nc]at*);(try simp only[aj,SS,sa,az]at*);(try have hltm:i<ms.length:=by assumption);(try have hlt:i<es.length:=by omega);(try have he:es.getD i.toNat []=[.v (.bool (nT es i 0))]:=(av hwf g0 hlt).symm);(try rw[dj (n:=es.length) g0 hlt (by omega)]);(try have hlt':i.toNat<es.length:=by omega);(try have hct:=cB (es:=es) (n:=i.toNat) (by omega);rw[he]at hct;simp only[cI,eC,Nat.add_zero,Nat.zero_add]at hct);(try have hks:=cP (es:=es) (k:=k) hlt';rw[he]at hks;simp only[eA,eQ]at hks);(try have hem:([.v (.bool (nT ms i 0))]:aP)=_:=(av hwm g0 hltm).trans (hat i.toNat hlt');rw[he]at hem;simp only[eA,eQ,List.cons.injEq,L.v.injEq,Value.int.injEq,Value.bool.injEq,L.s.injEq,true_and,and_true]at hem))
  all_goals exact LN
namespace LFrames
structure aQ where
 szN:List aa->Int->Int
abbrev F0 :aQ:=⟨bK⟩
def ct (F:aQ):CT:=fun f ds=>match f,ds with
 |114,[.one (.s 1 es),.one (.v (.int .i64 left))]=>some (fun _=>Rw [.sl [tI]] es/\0<=left/\left<=1048576,[.j (F.szN [es] left)])
 |143,[.one (.s 1 es)]=>some (fun _=>Rw [.sl [tI]] es/\ah es<=1048576,[.one (.s 1 es)])
 |172,[.one (.s 1 es),d]=>some (fun _=>d=.one (.s 1 es)/\Rw [.sl [tI]] es/\ah es<=1099511627776,[.k true])
 |314,[.one (.s 1 es),.one (.v (.int .i64 left))]=>some (fun _=>Rw [tB] es/\0<=left/\left<=1048576,[.j (F.szN [es] left)])
 |326,[.one (.s 1 es)]=>some (fun _=>Rw [tB] es/\ah es<=1048576,[.one (.s 1 es)])
 |338,[.one (.s 1 es),d]=>some (fun _=>d=.one (.s 1 es)/\Rw [tB] es/\ah es<=1099511627776,[.k true])
 |_,_=>none
theorem ai :aS (ct F0):=by
 intro f ds pre res h hp;unfold ct at h;split at h<;>cases h
 exact gK hp;exact gL hp;exact gJ hp;exact tX hp;exact t8 hp;exact tL hp
abbrev B :cy:=tb ai
end LFrames
namespace MFrames
structure aQ where
 kN:List aa->Int->Int
 mkN:aa->Int->aa
abbrev F0 :aQ:=⟨ao,am⟩
def ct (F:aQ):CT:=fun f ds=>match f,ds with
 |183,[.one (.s 1 ms),.one (.v (.int .i64 k))]=>some (fun _=>∃ es,ms=am es k/\Rw [.sl [tI]] es/\ah es<=1099511627776/\0<=k/\ao [ms] k<=1152921504606846976,[.j (F.kN [ms] k)])
 |343,[.one (.s 1 ms),.one (.v (.int .i64 k))]=>some (fun _=>∃ es,ms=am es k/\Rw [tB] es/\ah es<=1099511627776/\0<=k/\ao [ms] k<=1152921504606846976,[.j (F.kN [ms] k)])
 |_,_=>none
theorem ai :aS (ct F0):=by
 intro f ds pre res h hp;unfold ct at h;split at h<;>cases h
 exact fm hp;exact o7 hp
def mt (F:aQ):MT:=fun f=>match f with
 | 177=>some fun ds=>match ds with
   |[.one (.s 1 es),.one (.v (.int .i64 k))]=>some (fun _=>Rw [.sl [tI]] es/\ah es<=1099511627776/\0<=k/\ao [es] k<=1152921504606846976,[.s 1 (F.mkN es k)],[.j (F.kN [es] k)])
   |_=>none
 | 341=>some fun ds=>match ds with
   |[.one (.s 1 es),.one (.v (.int .i64 k))]=>some (fun _=>Rw [tB] es/\ah es<=1099511627776/\0<=k/\ao [es] k<=1152921504606846976,[.s 1 (F.mkN es k)],[.j (F.kN [es] k)])
   |_=>none
 |_=>none
theorem cW :gh (mt F0):=by
 intro f mk h ds pre outs res hm hp;unfold mt at h;split at h
 ·cases h;dsimp only at hm;split at hm
  ·cases hm;exact fo hp
  ·cases hm
 ·cases h;dsimp only at hm;split at hm
  ·cases hm;exact pc hp
  ·cases hm
 ·cases h
abbrev B :cy:={Φ:=aQ,F0:=F0,ct:=ct,hc:=ai,mt:=mt,hm:=cW}
end MFrames
theorem rP {a0 a1:aa}{left:Int}(hp:Rw [.sl [tI]] a0/\Rw [tB] a1/\0<=left/\left<=1048576):au 229 [.agg [.s 1 a0,.s 1 a1],.j left] [.j (bK [a0,a1] left)]:=by
 obtain⟨w0,w1,h0,h1⟩:=hp;refine cb LFrames.B Tryz.func229 ?_
 intro O r F hO hr hF;cbv
 repeat' first|apply And.intro|(apply be<;>intro hb<;>cbv)
 all_goals(subst hO hr hF;(try simp only[nc]at*);(try simp only[aj,SS,sa,az]at*);(try simp(disch:=assumption) only[iy,List.cons_append,List.nil_append]at*))
 all_goals exact Tg
theorem rX {a0 a1:aa}(hp:Rw [.sl [tI]] a0/\Rw [tB] a1/\aw [a0,a1]<=1048576):au 251 [.agg [.s 1 a0,.s 1 a1]] [.agg [.s 1 a0,.s 1 a1]]:=by
 obtain⟨w0,w1,hlim⟩:=hp;simp only[aw,Nat.add_zero]at hlim;refine cb LFrames.B Tryz.func251 ?_
 exact Te
theorem rz {a0 a1:aa}{d:DV}(hp:d=.agg [.s 1 a0,.s 1 a1]/\Rw [.sl [tI]] a0/\Rw [tB] a1/\aw [a0,a1]<=1099511627776):au 272 [.agg [.s 1 a0,.s 1 a1],d] [.k true]:=by
 obtain⟨rfl,w0,w1,hlim⟩:=hp;simp only[aw,Nat.add_zero]at hlim;refine cb LFrames.B Tryz.func272 ?_
 exact Td
theorem nA {a0 a1:aa}{k:Int}(hp:Rw [.sl [tI]] a0/\Rw [tB] a1/\aw [a0,a1]<=1099511627776/\0<=k/\ao [a0,a1] k<=1152921504606846976):eg 276 [.agg [.s 1 a0,.s 1 a1],.j k] [.s 1 (am a0 k),.s 1 (am a1 (ao [a0] k))] [.j (ao [a0,a1] k)]:=by
 obtain⟨w0,w1,hlim,hk0,hkb⟩:=hp;simp only[aw,Nat.add_zero]at hlim;have p0:ao [a0] k<=ao [a0,a1] k/\0<=ao [a0] k:=bu (b:=[a1]) hk0;have p1:ao [a0,a1] k<=ao [a0,a1] k/\0<=ao [a0,a1] k:=bu (b:=[]) hk0;refine mb MFrames.B [(2,0),(2,1)] Tryz.func276 ?_
 exact JX
theorem nh {m0 m1:aa}{k:Int}(hp:(∃ a0,m0=am a0 k/\Rw [.sl [tI]] a0/\ah a0<=1099511627776)/\(∃ a1,m1=am a1 (ao [m0] k)/\Rw [tB] a1/\ah a1<=1099511627776)/\0<=k/\ao [m0,m1] k<=1152921504606846976):au 279 [.agg [.s 1 m0,.s 1 m1],.j k] [.j (ao [m0,m1] k)]:=by
 obtain⟨e0,e1,hk0,hkb⟩:=hp;have p0:ao [m0] k<=ao [m0,m1] k/\0<=ao [m0] k:=bu (b:=[m1]) hk0;have p1:ao [m0,m1] k<=ao [m0,m1] k/\0<=ao [m0,m1] k:=bu (b:=[]) hk0;refine cb MFrames.B Tryz.func279 ?_
 exact SK
theorem ua {a0 a1:Int}(hp:True):au 354 [.agg [.i a0,.i a1]] [.agg [.i a0,.i a1]]:=by
 refine cb nB Tryz.func354 ?_
 exact sK
theorem tN {a0 a1:Int}{d:DV}(hp:d=.agg [.i a0,.i a1]):au 360 [.agg [.i a0,.i a1],d] [.k true]:=by
 subst hp;refine cb nB Tryz.func360 ?_
 exact sK
namespace LEntryS
def ct (F:aQ):CT:=fun f ds=>match f,ds with
 |354,[.agg [.v (.int .i64 a0),.v (.int .i64 a1)]]=>some (fun _=>True,[.agg [.i a0,.i a1]])
 |360,[.agg [.v (.int .i64 a0),.v (.int .i64 a1)],d]=>some (fun _=>d=.agg [.i a0,.i a1],[.k true])
 |_,_=>none
theorem ai :aS (ct F0):=by
 intro f ds pre res h hp;unfold ct at h;split at h<;>cases h
 exact ua hp;exact tN hp
abbrev B :cy:=tb ai
end LEntryS
theorem rO {es:aa}{left:Int}(hp:Rw [tI,tI] es/\0<=left/\left<=1048576):au 315 [.one (.s 2 es),.j left] [.j (bK [es] left)]:=by
 obtain⟨hw,h0,h1⟩:=hp;have hc:ah es=es.length:=hw.cnt rfl;have hm:=hw.1;unfold maxLen at hm;have hs:bF .sub .i64 left es.length=left-es.length:=cR (by omega);have hn:bK [es] left=if left<es.length then-1 else left-es.length:=by unfold bK;rw[dd,hc]
 refine cb LEntryS.B Tryz.func315 ?_
 exact J2
theorem rW {es:aa}(hp:Rw [tI,tI] es/\ah es<=1048576):au 327 [.one (.s 2 es)] [.one (.s 2 es)]:=by
 obtain⟨hw,hlim⟩:=hp;have hwf:Wf [.i 0,.i 0] es:=hw.wf;have hlen:=cV hlim;refine cb LEntryS.B Tryz.func327 ?_
 intro O r F hO hr hF;cbv
 have h0z:cd es [.i 0,.i 0] 0=O.rep (O.zi (O.ln es)) [.i 0,.i 0]:=by
  subst hO;rw[cO];rfl
 refine⟨?_,?_,[0,3,4],[3],Int×aa,fun s=>[.reg 4 (.j s.1),.leaf 3 0 ⟨0,0,none,.own (.s 2 s.2)⟩],fun s=>0<=s.1/\s.1.toNat<=es.length/\s.2=cd es [.i 0,.i 0] s.1.toNat,fun s=>es.length-s.1.toNat,⟨(0,O.rep (O.zi (O.ln es)) [.i 0,.i 0]),?_,?_⟩,?_⟩
 ·subst hO;exact ke (b:=16) (show es.length*_<=_ by omega) (show es.length<=_ by omega)
 ·subst hO;exact⟨rfl,rfl⟩
 ·exact⟨by omega,Nat.zero_le _,h0z.symm⟩
 ·cbv
 ·rintro⟨i,m⟩ hi;replace hi:0<=i/\i.toNat<=es.length/\m=cd es [.i 0,.i 0] i.toNat:=hi;obtain⟨g0,g1,hm⟩:=hi;cbv
  repeat' first|apply And.intro|(apply be<;>intro hb<;>cbv)|(refine ab (O.ar .add .i64 i 1,O.up (.s 2 m) [(O.ad 0 i,0)] [.i (O.gi es i 0),.i (O.gi es i 1)]) ?_ ?_ ?_;focus (cbv;done))
  all_goals(subst hO hr hF;(try simp only[nc]at*);(try simp only[aj,SS,sa,az]at*);(try simp only[jK,List.length_replicate,Int.toNat_natCast]at*);(try have hlt:i<es.length:=by assumption);(try have he:es.getD i.toNat []=[.i (ag es i 0),.i (ag es i 1)]:=(av hwf g0 hlt).symm))
  all_goals exact JZ
theorem ry {es:aa}{d:DV}(hp:d=.one (.s 2 es)/\Rw [tI,tI] es/\ah es<=1099511627776):au 339 [.one (.s 2 es),d] [.k true]:=by
 obtain⟨rfl,hw,hlim⟩:=hp;have hwf:Wf [.i 0,.i 0] es:=hw.wf;have hlen:=cV hlim;refine cb LEntryS.B Tryz.func339 ?_
 intro O r F hO hr hF;cbv
 apply be<;>intro hb<;>cbv
 ·(subst hO hr hF;(try simp only[nc]at*);(try simp only[aj,SS,sa,az]at*));exact absurd rfl hb
 ·clear hb;refine⟨[0,1,5],[],Int,fun i=>[.reg 5 (.j i)],fun i=>0<=i/\i.toNat<=es.length,fun i=>es.length-i.toNat,⟨0,?_,?_⟩,?_⟩
  ·exact⟨by omega,Nat.zero_le _⟩
  ·cbv
  ·rintro i hi;replace hi:0<=i/\i.toNat<=es.length:=hi;obtain⟨g0,g1⟩:=hi;cbv
   repeat' first|apply And.intro|(apply be<;>intro hb<;>cbv)|(refine ab (O.ar .add .i64 i 1) ?_ ?_ ?_;focus (cbv;done))
   all_goals(subst hO hr hF;(try simp only[nc]at*);(try simp only[aj,SS,sa,az]at*);(try have hlt:i<es.length:=by assumption);(try have he:es.getD i.toNat []=[.i (ag es i 0),.i (ag es i 1)]:=(av hwf g0 hlt).symm))
   all_goals exact LO
theorem ny {es:aa}{k:Int}(hp:Rw [tI,tI] es/\ah es<=1099511627776/\0<=k/\ao [es] k<=1152921504606846976):eg 342 [.one (.s 2 es),.j k] [.s 2 (am es k)] [.j (ao [es] k)]:=by
 obtain⟨hw,hlim,hk0,hkb⟩:=hp;have hwf:Wf [.i 0,.i 0] es:=hw.wf;have hlen:=cV hlim;refine mb nB [(0,0)] Tryz.func342 ?_
 intro O r os F hO hr hos hF;cbv
 refine⟨[0,1,5],[0],Int×Int×aa,fun s=>match s with|(i,k',cur)=>[.reg 5 (.j i),.reg 1 (.j k'),.leaf 0 0 ⟨0,0,some 0,.own (.s 2 cur)⟩],fun s=>0<=s.1/\s.1.toNat<=es.length/\s.2.1=dL es k s.1.toNat/\s.2.2=dW es k s.1.toNat,fun s=>es.length-s.1.toNat,⟨(0,k,es),?_,?_⟩,?_⟩
 ·exact⟨by omega,Nat.zero_le _,bJ.symm,dh.symm⟩
 ·cbv
 ·rintro⟨i,k',cur⟩ hi;replace hi:0<=i/\i.toNat<=es.length/\k'=dL es k i.toNat/\cur=dW es k i.toNat:=hi;obtain⟨g0,g1,hk',hc⟩:=hi;cbv
  repeat' first|apply And.intro|(apply be<;>intro hb<;>cbv)|(refine ab (O.ar .add .i64 i 1,O.ar .add .i64 (O.ar .add .i64 (k') 1) 1,O.up (.s 2 (O.up (.s 2 (cur)) [(O.ad 0 i,0)] [.i (k')])) [(O.ad 0 i,1)] [.i (O.ar .add .i64 (k') 1)]) ?_ ?_ ?_;focus (cbv;done))
  all_goals((try subst hos);subst hO hr hF;(try simp only[nc]at*);(try simp only[aj,SS,sa,az]at*);(try have hlt:i<es.length:=by assumption);(try have he:es.getD i.toNat []=[.i (ag es i 0),.i (ag es i 1)]:=(av hwf g0 hlt).symm);(try have hcg:cur.getD i.toNat []=[.i (ag es i 0),.i (ag es i 1)]:=by rw[hc,de g1];exact he))
  all_goals exact LM
theorem ng {ms:aa}{k:Int}(hp:∃ es,ms=am es k/\Rw [tI,tI] es/\ah es<=1099511627776/\0<=k/\ao [ms] k<=1152921504606846976):au 344 [.one (.s 2 ms),.j k] [.j (ao [ms] k)]:=by
 obtain⟨es,hms,hw,hlim,hk0,hkb⟩:=hp;have hlen:=cV hlim;have hml:ms.length=es.length:=by rw[hms];exact bZ
 have hkk:ao [ms] k=ao [es] k:=by rw[hms];exact j9
 have hwm:Wf [.i 0,.i 0] ms:=by rw[hms];exact cN hw
 have hwf:Wf [.i 0,.i 0] es:=hw.wf;have hat:∀ n,n<es.length->ms.getD n []=(eA (es.getD n []) (dL es k n)).1:=fun n hn=>by rw[hms];exact gd hn
 refine cb nB Tryz.func344 ?_
 intro O r F hO hr hF;cbv
 refine⟨[0,1,5],[],Int×Int,fun s=>match s with|(i,k')=>[.reg 5 (.j i),.reg 1 (.j k')],fun s=>0<=s.1/\s.1.toNat<=es.length/\s.2=dL es k s.1.toNat,fun s=>es.length-s.1.toNat,⟨(0,k),?_,?_⟩,?_⟩
 ·exact⟨by omega,Nat.zero_le _,bJ.symm⟩
 ·cbv
 ·rintro⟨i,k'⟩ hi;replace hi:0<=i/\i.toNat<=es.length/\k'=dL es k i.toNat:=hi;obtain⟨g0,g1,hk'⟩:=hi;cbv
  repeat' first|apply And.intro|(apply be<;>intro hb<;>cbv)|(refine ab (O.ar .add .i64 i 1,O.ar .add .i64 (O.ar .add .i64 (k') 1) 1) ?_ ?_ ?_;focus (cbv;done))
  all_goals(subst hO hr hF;(try simp only[nc]at*);(try simp only[aj,SS,sa,az]at*);(try have hltm:i<ms.length:=by assumption);(try have hlt:i<es.length:=by omega);(try have he:es.getD i.toNat []=[.i (ag es i 0),.i (ag es i 1)]:=(av hwf g0 hlt).symm);(try rw[dj (n:=es.length) g0 hlt (by omega)]);(try have hlt':i.toNat<es.length:=by omega);(try have hct:=cB (es:=es) (n:=i.toNat) (by omega);rw[he]at hct;simp only[cI,eC,Nat.add_zero,Nat.zero_add]at hct);(try have hks:=cP (es:=es) (k:=k) hlt';rw[he]at hks;simp only[eA,eQ]at hks);(try have hem:([.i (ag ms i 0),.i (ag ms i 1)]:aP)=_:=(av hwm g0 hltm).trans (hat i.toNat hlt');rw[he]at hem;simp only[eA,eQ,List.cons.injEq,L.v.injEq,Value.int.injEq,Value.bool.injEq,L.s.injEq,true_and,and_true]at hem))
  all_goals exact LN
namespace LTable
structure aQ where
 szN:List aa->Int->Int
abbrev F0 :aQ:=⟨bK⟩
def ct (F:aQ):CT:=fun f ds=>match f,ds with
 |315,[.one (.s 2 es),.one (.v (.int .i64 left))]=>some (fun _=>Rw [tI,tI] es/\0<=left/\left<=1048576,[.j (F.szN [es] left)])
 |327,[.one (.s 2 es)]=>some (fun _=>Rw [tI,tI] es/\ah es<=1048576,[.one (.s 2 es)])
 |339,[.one (.s 2 es),d]=>some (fun _=>d=.one (.s 2 es)/\Rw [tI,tI] es/\ah es<=1099511627776,[.k true])
 |_,_=>none
theorem ai :aS (ct F0):=by
 intro f ds pre res h hp;unfold ct at h;split at h<;>cases h
 exact rO hp;exact rW hp;exact ry hp
abbrev B :cy:=tb ai
end LTable
namespace MTable
structure aQ where
 kN:List aa->Int->Int
 mkN:aa->Int->aa
abbrev F0 :aQ:=⟨ao,am⟩
def ct (F:aQ):CT:=fun f ds=>match f,ds with
 |344,[.one (.s 2 ms),.one (.v (.int .i64 k))]=>some (fun _=>∃ es,ms=am es k/\Rw [tI,tI] es/\ah es<=1099511627776/\0<=k/\ao [ms] k<=1152921504606846976,[.j (F.kN [ms] k)])
 |_,_=>none
theorem ai :aS (ct F0):=by
 intro f ds pre res h hp;unfold ct at h;split at h<;>cases h
 exact ng hp
def mt (F:aQ):MT:=fun f=>match f with
 | 342=>some fun ds=>match ds with
   |[.one (.s 2 es),.one (.v (.int .i64 k))]=>some (fun _=>Rw [tI,tI] es/\ah es<=1099511627776/\0<=k/\ao [es] k<=1152921504606846976,[.s 2 (F.mkN es k)],[.j (F.kN [es] k)])
   |_=>none
 |_=>none
theorem cW :gh (mt F0):=by
 intro f mk h ds pre outs res hm hp;unfold mt at h;split at h
 ·cases h;dsimp only at hm;split at hm
  ·cases hm;exact ny hp
  ·cases hm
 ·cases h
abbrev B :cy:={Φ:=aQ,F0:=F0,ct:=ct,hc:=ai,mt:=mt,hm:=cW}
end MTable
theorem t7 {a0:aa}{left:Int}(hp:Rw [tI,tI] a0/\0<=left/\left<=1048576):au 230 [.agg [.s 2 a0],.j left] [.j (bK [a0] left)]:=by
 obtain⟨w0,h0,h1⟩:=hp;refine cb LTable.B Tryz.func230 ?_
 intro O r F hO hr hF;cbv
 repeat' first|apply And.intro|(apply be<;>intro hb<;>cbv)
 all_goals(subst hO hr hF;(try simp only[nc]at*);(try simp only[aj,SS,sa,az]at*);(try simp(disch:=assumption) only[iy,List.cons_append,List.nil_append]at*))
 all_goals first|trivial|(rw[hH (by assumption)])|trace_state
theorem ui {a0:aa}(hp:Rw [tI,tI] a0/\aw [a0]<=1048576):au 252 [.agg [.s 2 a0]] [.agg [.s 2 a0]]:=by
 obtain⟨w0,hlim⟩:=hp;simp only[aw,Nat.add_zero]at hlim;refine cb LTable.B Tryz.func252 ?_
 exact sK
theorem tU {a0:aa}{d:DV}(hp:d=.agg [.s 2 a0]/\Rw [tI,tI] a0/\aw [a0]<=1099511627776):au 273 [.agg [.s 2 a0],d] [.k true]:=by
 obtain⟨rfl,w0,hlim⟩:=hp;simp only[aw,Nat.add_zero]at hlim;refine cb LTable.B Tryz.func273 ?_
 exact sK
theorem pk {a0:aa}{k:Int}(hp:Rw [tI,tI] a0/\aw [a0]<=1099511627776/\0<=k/\ao [a0] k<=1152921504606846976):eg 277 [.agg [.s 2 a0],.j k] [.s 2 (am a0 k)] [.j (ao [a0] k)]:=by
 obtain⟨w0,hlim,hk0,hkb⟩:=hp;simp only[aw,Nat.add_zero]at hlim;have p0:ao [a0] k<=ao [a0] k/\0<=ao [a0] k:=bu (b:=[]) hk0;refine mb MTable.B [(2,0)] Tryz.func277 ?_
 exact J0
theorem pa {m0:aa}{k:Int}(hp:(∃ a0,m0=am a0 k/\Rw [tI,tI] a0/\ah a0<=1099511627776)/\0<=k/\ao [m0] k<=1152921504606846976):au 280 [.agg [.s 2 m0],.j k] [.j (ao [m0] k)]:=by
 obtain⟨e0,hk0,hkb⟩:=hp;have p0:ao [m0] k<=ao [m0] k/\0<=ao [m0] k:=bu (b:=[]) hk0;refine cb MTable.B Tryz.func280 ?_
 exact JY
namespace LMachine
structure aQ where
 szN:List aa->Int->Int
abbrev F0 :aQ:=⟨bK⟩
def ct (F:aQ):CT:=fun f ds=>match f,ds with
 |229,[.agg [.s 1 a0,.s 1 a1],.one (.v (.int .i64 left))]=>some (fun _=>Rw [.sl [tI]] a0/\Rw [tB] a1/\0<=left/\left<=1048576,[.j (F.szN [a0,a1] left)])
 |251,[.agg [.s 1 a0,.s 1 a1]]=>some (fun _=>Rw [.sl [tI]] a0/\Rw [tB] a1/\aw [a0,a1]<=1048576,[.agg [.s 1 a0,.s 1 a1]])
 |272,[.agg [.s 1 a0,.s 1 a1],d]=>some (fun _=>d=.agg [.s 1 a0,.s 1 a1]/\Rw [.sl [tI]] a0/\Rw [tB] a1/\aw [a0,a1]<=1099511627776,[.k true])
 |230,[.agg [.s 2 a0],.one (.v (.int .i64 left))]=>some (fun _=>Rw [tI,tI] a0/\0<=left/\left<=1048576,[.j (F.szN [a0] left)])
 |252,[.agg [.s 2 a0]]=>some (fun _=>Rw [tI,tI] a0/\aw [a0]<=1048576,[.agg [.s 2 a0]])
 |273,[.agg [.s 2 a0],d]=>some (fun _=>d=.agg [.s 2 a0]/\Rw [tI,tI] a0/\aw [a0]<=1099511627776,[.k true])
 |_,_=>none
theorem ai :aS (ct F0):=by
 intro f ds pre res h hp;unfold ct at h;split at h<;>cases h
 exact rP hp;exact rX hp;exact rz hp;exact t7 hp;exact ui hp;exact tU hp
abbrev B :cy:=tb ai
end LMachine
namespace MMachine
structure aQ where
 kN:List aa->Int->Int
 mkN:aa->Int->aa
abbrev F0 :aQ:=⟨ao,am⟩
def ct (F:aQ):CT:=fun f ds=>match f,ds with
 |279,[.agg [.s 1 m0,.s 1 m1],.one (.v (.int .i64 k))]=>some (fun _=>(∃ a0,m0=am a0 k/\Rw [.sl [tI]] a0/\ah a0<=1099511627776)/\(∃ a1,m1=am a1 (ao [m0] k)/\Rw [tB] a1/\ah a1<=1099511627776)/\0<=k/\ao [m0,m1] k<=1152921504606846976,[.j (F.kN [m0,m1] k)])
 |280,[.agg [.s 2 m0],.one (.v (.int .i64 k))]=>some (fun _=>(∃ a0,m0=am a0 k/\Rw [tI,tI] a0/\ah a0<=1099511627776)/\0<=k/\ao [m0] k<=1152921504606846976,[.j (F.kN [m0] k)])
 |_,_=>none
theorem ai :aS (ct F0):=by
 intro f ds pre res h hp;unfold ct at h;split at h<;>cases h
 exact nh hp;exact pa hp
def mt (F:aQ):MT:=fun f=>match f with
 | 276=>some fun ds=>match ds with
   |[.agg [.s 1 a0,.s 1 a1],.one (.v (.int .i64 k))]=>some (fun _=>Rw [.sl [tI]] a0/\Rw [tB] a1/\aw [a0,a1]<=1099511627776/\0<=k/\ao [a0,a1] k<=1152921504606846976,[.s 1 (F.mkN a0 k),.s 1 (F.mkN a1 (F.kN [a0] k))],[.j (F.kN [a0,a1] k)])
   |_=>none
 | 277=>some fun ds=>match ds with
   |[.agg [.s 2 a0],.one (.v (.int .i64 k))]=>some (fun _=>Rw [tI,tI] a0/\aw [a0]<=1099511627776/\0<=k/\ao [a0] k<=1152921504606846976,[.s 2 (F.mkN a0 k)],[.j (F.kN [a0] k)])
   |_=>none
 |_=>none
theorem cW :gh (mt F0):=by
 intro f mk h ds pre outs res hm hp;unfold mt at h;split at h
 ·cases h;dsimp only at hm;split at hm
  ·cases hm;exact nA hp
  ·cases hm
 ·cases h;dsimp only at hm;split at hm
  ·cases hm;exact pk hp
  ·cases hm
 ·cases h
abbrev B :cy:={Φ:=aQ,F0:=F0,ct:=ct,hc:=ai,mt:=mt,hm:=cW}
end MMachine
theorem pm {a0 a1 a2:aa}{left:Int}(hp:Rw [.sl [tI]] a0/\Rw [tB] a1/\Rw [tI,tI] a2/\0<=left/\left<=1048576):au 110 [.agg [.s 1 a0,.s 1 a1,.s 2 a2],.j left] [.j (bK [a0,a1,a2] left)]:=by
 obtain⟨w0,w1,w2,h0,h1⟩:=hp;refine cb LMachine.B Tryz.func110 ?_
 intro O r F hO hr hF;cbv
 repeat' first|apply And.intro|(apply be<;>intro hb<;>cbv)
 all_goals(subst hO hr hF;(try simp only[nc]at*);(try simp only[aj,SS,sa,az]at*);(try simp(disch:=assumption) only[iy,List.cons_append,List.nil_append]at*))
 all_goals first|trivial|(refine⟨by assumption,by omega,by first|omega|exact Int.le_trans (vQ (by assumption)) h1⟩)|(rw[hH (by assumption)])|exact congrArg (fun x=>[DV.one (L.v (Value.int IntKind.i64 x))]) (d5 (a:=[a0,a1]) (b:=[a2]) (by assumption)).symm|trace_state
theorem po {a0 a1 a2:aa}(hp:Rw [.sl [tI]] a0/\Rw [tB] a1/\Rw [tI,tI] a2/\aw [a0,a1,a2]<=1048576):au 135 [.agg [.s 1 a0,.s 1 a1,.s 2 a2]] [.agg [.s 1 a0,.s 1 a1,.s 2 a2]]:=by
 obtain⟨w0,w1,w2,hlim⟩:=hp;simp only[aw,Nat.add_zero]at hlim;refine cb LMachine.B Tryz.func135 ?_
 intro O r F hO hr hF;cbv
 repeat' first|apply And.intro|(apply be<;>intro hb<;>cbv)
 all_goals(subst hO hr hF;(try simp only[nc]at*);(try simp only[aj,SS,sa,az]at*))
 all_goals first|trivial|(refine⟨by assumption,?_⟩;(try simp only[aw,Nat.add_zero]);omega)|(refine⟨by assumption,by assumption,?_⟩;(try simp only[aw,Nat.add_zero]);omega)|trace_state
theorem o6 {a0 a1 a2:aa}{d:DV}(hp:d=.agg [.s 1 a0,.s 1 a1,.s 2 a2]/\Rw [.sl [tI]] a0/\Rw [tB] a1/\Rw [tI,tI] a2/\aw [a0,a1,a2]<=1099511627776):au 164 [.agg [.s 1 a0,.s 1 a1,.s 2 a2],d] [.k true]:=by
 obtain⟨rfl,w0,w1,w2,hlim⟩:=hp;simp only[aw,Nat.add_zero]at hlim;refine cb LMachine.B Tryz.func164 ?_
 intro O r F hO hr hF;cbv
 repeat' first|apply And.intro|(apply be<;>intro hb<;>cbv)
 all_goals(subst hO hr hF;(try simp only[nc]at*);(try simp only[aj,SS,sa,az]at*))
 all_goals first|trivial|(refine⟨trivial,by assumption,?_⟩;(try simp only[aw,Nat.add_zero]);omega)|(refine⟨trivial,by assumption,by assumption,?_⟩;(try simp only[aw,Nat.add_zero]);omega)|trace_state
theorem mw {a0 a1 a2:aa}{k:Int}(hp:Rw [.sl [tI]] a0/\Rw [tB] a1/\Rw [tI,tI] a2/\aw [a0,a1,a2]<=1099511627776/\0<=k/\ao [a0,a1,a2] k<=1152921504606846976):eg 175 [.agg [.s 1 a0,.s 1 a1,.s 2 a2],.j k] [.s 1 (am a0 k),.s 1 (am a1 (ao [a0] k)),.s 2 (am a2 (ao [a0,a1] k))] [.j (ao [a0,a1,a2] k)]:=by
 obtain⟨w0,w1,w2,hlim,hk0,hkb⟩:=hp;simp only[aw,Nat.add_zero]at hlim;have p0:ao [a0] k<=ao [a0,a1,a2] k/\0<=ao [a0] k:=bu (b:=[a1,a2]) hk0;have p1:ao [a0,a1] k<=ao [a0,a1,a2] k/\0<=ao [a0,a1] k:=bu (b:=[a2]) hk0;have p2:ao [a0,a1,a2] k<=ao [a0,a1,a2] k/\0<=ao [a0,a1,a2] k:=bu (b:=[]) hk0;refine mb MMachine.B [(2,0),(2,1),(2,2)] Tryz.func175 ?_
 exact JX
theorem mr {m0 m1 m2:aa}{k:Int}(hp:(∃ a0,m0=am a0 k/\Rw [.sl [tI]] a0/\ah a0<=1099511627776)/\(∃ a1,m1=am a1 (ao [m0] k)/\Rw [tB] a1/\ah a1<=1099511627776)/\(∃ a2,m2=am a2 (ao [m0,m1] k)/\Rw [tI,tI] a2/\ah a2<=1099511627776)/\0<=k/\ao [m0,m1,m2] k<=1152921504606846976):au 181 [.agg [.s 1 m0,.s 1 m1,.s 2 m2],.j k] [.j (ao [m0,m1,m2] k)]:=by
 obtain⟨e0,e1,e2,hk0,hkb⟩:=hp;have p0:ao [m0] k<=ao [m0,m1,m2] k/\0<=ao [m0] k:=bu (b:=[m1,m2]) hk0;have p1:ao [m0,m1] k<=ao [m0,m1,m2] k/\0<=ao [m0,m1] k:=bu (b:=[m2]) hk0;have p2:ao [m0,m1,m2] k<=ao [m0,m1,m2] k/\0<=ao [m0,m1,m2] k:=bu (b:=[]) hk0;refine cb MMachine.B Tryz.func181 ?_
 intro O r F hO hr hF;cbv
 repeat' first|apply And.intro|(apply be<;>intro hb<;>cbv)
 all_goals(subst hO hr hF;(try simp only[nc]at*);(try simp only[aj,SS,sa,az]at*);(try simp only[fq,List.cons_append,List.nil_append]at*))
 all_goals first|trivial|(exfalso;omega)|(obtain⟨x,y1,y2,y3⟩:=e0;exact⟨x,y1,y2,y3,by omega,by omega⟩)|(obtain⟨x,y1,y2,y3⟩:=e1;exact⟨x,y1,y2,y3,by omega,by omega⟩)|(obtain⟨x,y1,y2,y3⟩:=e2;exact⟨x,y1,y2,y3,by omega,by omega⟩)|(refine⟨by assumption,by omega,by omega⟩)|(refine⟨by assumption,by assumption,by omega,by omega⟩)|(refine⟨by assumption,by assumption,by assumption,by omega,by omega⟩)|trace_state
namespace LKernel
structure aQ where
 szN:List aa->Int->Int
abbrev F0 :aQ:=⟨bK⟩
def ct (F:aQ):CT:=fun f ds=>match f,ds with
 |110,[.agg [.s 1 a0,.s 1 a1,.s 2 a2],.one (.v (.int .i64 left))]=>some (fun _=>Rw [.sl [tI]] a0/\Rw [tB] a1/\Rw [tI,tI] a2/\0<=left/\left<=1048576,[.j (F.szN [a0,a1,a2] left)])
 |135,[.agg [.s 1 a0,.s 1 a1,.s 2 a2]]=>some (fun _=>Rw [.sl [tI]] a0/\Rw [tB] a1/\Rw [tI,tI] a2/\aw [a0,a1,a2]<=1048576,[.agg [.s 1 a0,.s 1 a1,.s 2 a2]])
 |164,[.agg [.s 1 a0,.s 1 a1,.s 2 a2],d]=>some (fun _=>d=.agg [.s 1 a0,.s 1 a1,.s 2 a2]/\Rw [.sl [tI]] a0/\Rw [tB] a1/\Rw [tI,tI] a2/\aw [a0,a1,a2]<=1099511627776,[.k true])
 |111,[.one (.s 1 es),.one (.v (.int .i64 left))]=>some (fun _=>Rw [tI] es/\0<=left/\left<=1048576,[.j (F.szN [es] left)])
 |136,[.one (.s 1 es)]=>some (fun _=>Rw [tI] es/\ah es<=1048576,[.one (.s 1 es)])
 |165,[.one (.s 1 es),d]=>some (fun _=>d=.one (.s 1 es)/\Rw [tI] es/\ah es<=1099511627776,[.k true])
 |_,_=>none
theorem ai :aS (ct F0):=by
 intro f ds pre res h hp;unfold ct at h;split at h<;>cases h
 exact pm hp;exact po hp;exact o6 hp;exact iH hp;exact iJ hp;exact iF hp
abbrev B :cy:=tb ai
end LKernel
namespace MKernel
structure aQ where
 kN:List aa->Int->Int
 mkN:aa->Int->aa
abbrev F0 :aQ:=⟨ao,am⟩
def ct (F:aQ):CT:=fun f ds=>match f,ds with
 |181,[.agg [.s 1 m0,.s 1 m1,.s 2 m2],.one (.v (.int .i64 k))]=>some (fun _=>(∃ a0,m0=am a0 k/\Rw [.sl [tI]] a0/\ah a0<=1099511627776)/\(∃ a1,m1=am a1 (ao [m0] k)/\Rw [tB] a1/\ah a1<=1099511627776)/\(∃ a2,m2=am a2 (ao [m0,m1] k)/\Rw [tI,tI] a2/\ah a2<=1099511627776)/\0<=k/\ao [m0,m1,m2] k<=1152921504606846976,[.j (F.kN [m0,m1,m2] k)])
 |182,[.one (.s 1 ms),.one (.v (.int .i64 k))]=>some (fun _=>∃ es,ms=am es k/\Rw [tI] es/\ah es<=1099511627776/\0<=k/\ao [ms] k<=1152921504606846976,[.j (F.kN [ms] k)])
 |_,_=>none
theorem ai :aS (ct F0):=by
 intro f ds pre res h hp;unfold ct at h;split at h<;>cases h
 exact mr hp;exact fX hp
def mt (F:aQ):MT:=fun f=>match f with
 | 175=>some fun ds=>match ds with
   |[.agg [.s 1 a0,.s 1 a1,.s 2 a2],.one (.v (.int .i64 k))]=>some (fun _=>Rw [.sl [tI]] a0/\Rw [tB] a1/\Rw [tI,tI] a2/\aw [a0,a1,a2]<=1099511627776/\0<=k/\ao [a0,a1,a2] k<=1152921504606846976,[.s 1 (F.mkN a0 k),.s 1 (F.mkN a1 (F.kN [a0] k)),.s 2 (F.mkN a2 (F.kN [a0,a1] k))],[.j (F.kN [a0,a1,a2] k)])
   |_=>none
 | 176=>some fun ds=>match ds with
   |[.one (.s 1 es),.one (.v (.int .i64 k))]=>some (fun _=>Rw [tI] es/\ah es<=1099511627776/\0<=k/\ao [es] k<=1152921504606846976,[.s 1 (F.mkN es k)],[.j (F.kN [es] k)])
   |_=>none
 |_=>none
theorem cW :gh (mt F0):=by
 intro f mk h ds pre outs res hm hp;unfold mt at h;split at h
 ·cases h;dsimp only at hm;split at hm
  ·cases hm;exact mw hp
  ·cases hm
 ·cases h;dsimp only at hm;split at hm
  ·cases hm;exact fZ hp
  ·cases hm
 ·cases h
abbrev B :cy:={Φ:=aQ,F0:=F0,ct:=ct,hc:=ai,mt:=mt,hm:=cW}
end MKernel
theorem rQ {a0 a1 a2:aa}{a3:Int}{a4:aa}{left:Int}(hp:Rw [.sl [tI]] a0/\Rw [tB] a1/\Rw [tI,tI] a2/\Rw [tI] a4/\0<=left/\left<=1048576):au 29 [.agg [.s 1 a0,.s 1 a1,.s 2 a2,.i a3,.s 1 a4],.j left] [.j (bK [a0,a1,a2,a4] left)]:=by
 obtain⟨w0,w1,w2,w3,h0,h1⟩:=hp;refine cb LKernel.B Tryz.func29 ?_
 intro O r F hO hr hF;cbv
 repeat' first|apply And.intro|(apply be<;>intro hb<;>cbv)
 all_goals(subst hO hr hF;(try simp only[nc]at*);(try simp only[aj,SS,sa,az]at*);(try simp(disch:=assumption) only[iy,List.cons_append,List.nil_append]at*))
 all_goals first|trivial|(refine⟨by assumption,by omega,by first|omega|exact Int.le_trans (vQ (by assumption)) h1⟩)|(rw[hH (by assumption)])|exact congrArg (fun x=>[DV.one (L.v (Value.int IntKind.i64 x))]) (d5 (a:=[a0,a1,a2]) (b:=[a4]) (by assumption)).symm|trace_state
theorem rY {a0 a1 a2:aa}{a3:Int}{a4:aa}(hp:Rw [.sl [tI]] a0/\Rw [tB] a1/\Rw [tI,tI] a2/\Rw [tI] a4/\aw [a0,a1,a2,a4]<=1048576):au 41 [.agg [.s 1 a0,.s 1 a1,.s 2 a2,.i a3,.s 1 a4]] [.agg [.s 1 a0,.s 1 a1,.s 2 a2,.i a3,.s 1 a4]]:=by
 obtain⟨w0,w1,w2,w3,hlim⟩:=hp;simp only[aw,Nat.add_zero]at hlim;refine cb LKernel.B Tryz.func41 ?_
 intro O r F hO hr hF;cbv
 repeat' first|apply And.intro|(apply be<;>intro hb<;>cbv)
 all_goals(subst hO hr hF;(try simp only[nc]at*);(try simp only[aj,SS,sa,az]at*))
 all_goals first|trivial|(refine⟨by assumption,?_⟩;(try simp only[aw,Nat.add_zero]);omega)|(refine⟨by assumption,by assumption,by assumption,?_⟩;(try simp only[aw,Nat.add_zero]);omega)|trace_state
theorem rA {a0 a1 a2:aa}{a3:Int}{a4:aa}{d:DV}(hp:d=.agg [.s 1 a0,.s 1 a1,.s 2 a2,.i a3,.s 1 a4]/\Rw [.sl [tI]] a0/\Rw [tB] a1/\Rw [tI,tI] a2/\Rw [tI] a4/\aw [a0,a1,a2,a4]<=1099511627776):au 53 [.agg [.s 1 a0,.s 1 a1,.s 2 a2,.i a3,.s 1 a4],d] [.k true]:=by
 obtain⟨rfl,w0,w1,w2,w3,hlim⟩:=hp;simp only[aw,Nat.add_zero]at hlim;refine cb LKernel.B Tryz.func53 ?_
 intro O r F hO hr hF;cbv
 repeat' first|apply And.intro|(apply be<;>intro hb<;>cbv)
 all_goals(subst hO hr hF;(try simp only[nc]at*);(try simp only[aj,SS,sa,az]at*))
 all_goals first|trivial|(refine⟨trivial,by assumption,?_⟩;(try simp only[aw,Nat.add_zero]);omega)|(refine⟨trivial,by assumption,by assumption,by assumption,?_⟩;(try simp only[aw,Nat.add_zero]);omega)|trace_state
theorem nC {a0 a1 a2:aa}{a3:Int}{a4:aa}{k:Int}(hp:Rw [.sl [tI]] a0/\Rw [tB] a1/\Rw [tI,tI] a2/\Rw [tI] a4/\aw [a0,a1,a2,a4]<=1099511627776/\0<=k/\ao [a0,a1,a2,a4] k<=1152921504606846976):eg 62 [.agg [.s 1 a0,.s 1 a1,.s 2 a2,.i a3,.s 1 a4],.j k] [.s 1 (am a0 k),.s 1 (am a1 (ao [a0] k)),.s 2 (am a2 (ao [a0,a1] k)),.s 1 (am a4 (ao [a0,a1,a2] k))] [.j (ao [a0,a1,a2,a4] k)]:=by
 obtain⟨w0,w1,w2,w3,hlim,hk0,hkb⟩:=hp;simp only[aw,Nat.add_zero]at hlim;have p0:ao [a0] k<=ao [a0,a1,a2,a4] k/\0<=ao [a0] k:=bu (b:=[a1,a2,a4]) hk0;have p1:ao [a0,a1] k<=ao [a0,a1,a2,a4] k/\0<=ao [a0,a1] k:=bu (b:=[a2,a4]) hk0;have p2:ao [a0,a1,a2] k<=ao [a0,a1,a2,a4] k/\0<=ao [a0,a1,a2] k:=bu (b:=[a4]) hk0;have p3:ao [a0,a1,a2,a4] k<=ao [a0,a1,a2,a4] k/\0<=ao [a0,a1,a2,a4] k:=bu (b:=[]) hk0;refine mb MKernel.B [(2,0),(2,1),(2,2),(2,4)] Tryz.func62 ?_
 exact JX
theorem ni {m0 m1 m2:aa}{m3:Int}{m4:aa}{k:Int}(hp:(∃ a0,m0=am a0 k/\Rw [.sl [tI]] a0/\ah a0<=1099511627776)/\(∃ a1,m1=am a1 (ao [m0] k)/\Rw [tB] a1/\ah a1<=1099511627776)/\(∃ a2,m2=am a2 (ao [m0,m1] k)/\Rw [tI,tI] a2/\ah a2<=1099511627776)/\(∃ a4,m4=am a4 (ao [m0,m1,m2] k)/\Rw [tI] a4/\ah a4<=1099511627776)/\0<=k/\ao [m0,m1,m2,m4] k<=1152921504606846976):au 71 [.agg [.s 1 m0,.s 1 m1,.s 2 m2,.i m3,.s 1 m4],.j k] [.j (ao [m0,m1,m2,m4] k)]:=by
 obtain⟨e0,e1,e2,e3,hk0,hkb⟩:=hp;have p0:ao [m0] k<=ao [m0,m1,m2,m4] k/\0<=ao [m0] k:=bu (b:=[m1,m2,m4]) hk0;have p1:ao [m0,m1] k<=ao [m0,m1,m2,m4] k/\0<=ao [m0,m1] k:=bu (b:=[m2,m4]) hk0;have p2:ao [m0,m1,m2] k<=ao [m0,m1,m2,m4] k/\0<=ao [m0,m1,m2] k:=bu (b:=[m4]) hk0;have p3:ao [m0,m1,m2,m4] k<=ao [m0,m1,m2,m4] k/\0<=ao [m0,m1,m2,m4] k:=bu (b:=[]) hk0;refine cb MKernel.B Tryz.func71 ?_
 intro O r F hO hr hF;cbv
 repeat' first|apply And.intro|(apply be<;>intro hb<;>cbv)
 all_goals(subst hO hr hF;(try simp only[nc]at*);(try simp only[aj,SS,sa,az]at*);(try simp only[fq,List.cons_append,List.nil_append]at*))
 all_goals first|trivial|(exfalso;omega)|(obtain⟨x,y1,y2,y3⟩:=e0;exact⟨x,y1,y2,y3,by omega,by omega⟩)|(obtain⟨x,y1,y2,y3⟩:=e1;exact⟨x,y1,y2,y3,by omega,by omega⟩)|(obtain⟨x,y1,y2,y3⟩:=e2;exact⟨x,y1,y2,y3,by omega,by omega⟩)|(obtain⟨x,y1,y2,y3⟩:=e3;exact⟨x,y1,y2,y3,by omega,by omega⟩)|(refine⟨by assumption,by omega,by omega⟩)|(refine⟨by assumption,by assumption,by omega,by omega⟩)|(refine⟨by assumption,by assumption,by assumption,by omega,by omega⟩)|(refine⟨by assumption,by assumption,by assumption,by assumption,by omega,by omega⟩)|trace_state
end Go.V