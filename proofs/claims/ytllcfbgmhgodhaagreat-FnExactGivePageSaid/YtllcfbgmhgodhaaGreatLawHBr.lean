/- Contracts. -/
import Derived.Test.YtllcfbgmhgodhaaGreatLawHEr
set_option linter.all false
namespace Go.V
open Go Go.Proofs
set_option maxRecDepth 1000000
set_option maxHeartbeats 8000000
theorem uf {a0 a1:Int}(hp:True):au 137 [.agg [.i a0,.i a1]] [.agg [.i a0,.i a1]]:=by
 refine cb nB Tryz.func137 ?_
 exact sK
theorem tQ {a0 a1:Int}{d:DV}(hp:d=.agg [.i a0,.i a1]):au 166 [.agg [.i a0,.i a1],d] [.k true]:=by
 subst hp;refine cb nB Tryz.func166 ?_
 exact sK
namespace LRangeS
def ct (F:aQ):CT:=fun f ds=>match f,ds with
 |137,[.agg [.v (.int .i64 a0),.v (.int .i64 a1)]]=>some (fun _=>True,[.agg [.i a0,.i a1]])
 |166,[.agg [.v (.int .i64 a0),.v (.int .i64 a1)],d]=>some (fun _=>d=.agg [.i a0,.i a1],[.k true])
 |_,_=>none
theorem ai :aS (ct F0):=by
 intro f ds pre res h hp;unfold ct at h;split at h<;>cases h
 exact uf hp;exact tQ hp
abbrev B :cy:=tb ai
end LRangeS
theorem rT {es:aa}{left:Int}(hp:Rw [tI,tI] es/\0<=left/\left<=1048576):au 30 [.one (.s 2 es),.j left] [.j (bK [es] left)]:=by
 obtain⟨hw,h0,h1⟩:=hp;have hc:ah es=es.length:=hw.cnt rfl;have hm:=hw.1;unfold maxLen at hm;have hs:bF .sub .i64 left es.length=left-es.length:=cR (by omega);have hn:bK [es] left=if left<es.length then-1 else left-es.length:=by unfold bK;rw[dd,hc]
 refine cb LRangeS.B Tryz.func30 ?_
 exact J2
theorem sd {es:aa}(hp:Rw [tI,tI] es/\ah es<=1048576):au 42 [.one (.s 2 es)] [.one (.s 2 es)]:=by
 obtain⟨hw,hlim⟩:=hp;have hwf:Wf [.i 0,.i 0] es:=hw.wf;have hlen:=cV hlim;refine cb LRangeS.B Tryz.func42 ?_
 intro O r F hO hr hF;cbv
 have h0z:cd es [.i 0,.i 0] 0=O.rep (O.zi (O.ln es)) [.i 0,.i 0]:=by
  subst hO;rw[cO];rfl
 refine⟨?_,?_,[0,3,4],[3],Int×aa,fun s=>[.reg 4 (.j s.1),.leaf 3 0 ⟨0,0,none,.own (.s 2 s.2)⟩],fun s=>0<=s.1/\s.1.toNat<=es.length/\s.2=cd es [.i 0,.i 0] s.1.toNat,fun s=>es.length-s.1.toNat,⟨(0,O.rep (O.zi (O.ln es)) [.i 0,.i 0]),?_,?_⟩,?_⟩
 ·subst hO;exact ke (b:=16) (show es.length*_<=_ by omega) (show es.length<=_ by omega)
 ·subst hO;exact⟨rfl,rfl⟩
 ·exact⟨by omega,Nat.zero_le _,h0z.symm⟩
 ·cbv
 ·rintro⟨i,m⟩ hi;replace hi:0<=i/\i.toNat<=es.length/\m=cd es [.i 0,.i 0] i.toNat:=hi;obtain⟨g0,g1,hm⟩:=hi;cbv
  repeat' first|apply And.intro|(apply be<;>intro hb<;>cbv)|(refine ab (O.ar .add .i64 i 1,O.up (.s 2 m) [(O.ad 0 i,0)] [.i (O.gi es i 0),.i (O.gi es i 1)]) ?_ ?_ ?_;focus (cbv;done))
  all_goals(subst hO hr hF;(try simp only[nc]at*);(try simp only[aj,SS,sa,az]at*);(try simp only[jK,List.length_replicate,Int.toNat_natCast]at*);(try have hlt:i<es.length:=by assumption);(try have he:es.getD i.toNat []=[.i (ag es i 0),.i (ag es i 1)]:=(av hwf g0 hlt).symm))
  all_goals exact JZ
theorem rD {es:aa}{d:DV}(hp:d=.one (.s 2 es)/\Rw [tI,tI] es/\ah es<=1099511627776):au 54 [.one (.s 2 es),d] [.k true]:=by
 obtain⟨rfl,hw,hlim⟩:=hp;have hwf:Wf [.i 0,.i 0] es:=hw.wf;have hlen:=cV hlim;refine cb LRangeS.B Tryz.func54 ?_
 intro O r F hO hr hF;cbv
 apply be<;>intro hb<;>cbv
 ·(subst hO hr hF;(try simp only[nc]at*);(try simp only[aj,SS,sa,az]at*));exact absurd rfl hb
 ·clear hb;refine⟨[0,1,5],[],Int,fun i=>[.reg 5 (.j i)],fun i=>0<=i/\i.toNat<=es.length,fun i=>es.length-i.toNat,⟨0,?_,?_⟩,?_⟩
  ·exact⟨by omega,Nat.zero_le _⟩
  ·cbv
  ·rintro i hi;replace hi:0<=i/\i.toNat<=es.length:=hi;obtain⟨g0,g1⟩:=hi;cbv
   repeat' first|apply And.intro|(apply be<;>intro hb<;>cbv)|(refine ab (O.ar .add .i64 i 1) ?_ ?_ ?_;focus (cbv;done))
   all_goals(subst hO hr hF;(try simp only[nc]at*);(try simp only[aj,SS,sa,az]at*);(try have hlt:i<es.length:=by assumption);(try have he:es.getD i.toNat []=[.i (ag es i 0),.i (ag es i 1)]:=(av hwf g0 hlt).symm))
   all_goals exact LO
theorem nF {es:aa}{k:Int}(hp:Rw [tI,tI] es/\ah es<=1099511627776/\0<=k/\ao [es] k<=1152921504606846976):eg 63 [.one (.s 2 es),.j k] [.s 2 (am es k)] [.j (ao [es] k)]:=by
 obtain⟨hw,hlim,hk0,hkb⟩:=hp;have hwf:Wf [.i 0,.i 0] es:=hw.wf;have hlen:=cV hlim;refine mb nB [(0,0)] Tryz.func63 ?_
 intro O r os F hO hr hos hF;cbv
 refine⟨[0,1,5],[0],Int×Int×aa,fun s=>match s with|(i,k',cur)=>[.reg 5 (.j i),.reg 1 (.j k'),.leaf 0 0 ⟨0,0,some 0,.own (.s 2 cur)⟩],fun s=>0<=s.1/\s.1.toNat<=es.length/\s.2.1=dL es k s.1.toNat/\s.2.2=dW es k s.1.toNat,fun s=>es.length-s.1.toNat,⟨(0,k,es),?_,?_⟩,?_⟩
 ·exact⟨by omega,Nat.zero_le _,bJ.symm,dh.symm⟩
 ·cbv
 ·rintro⟨i,k',cur⟩ hi;replace hi:0<=i/\i.toNat<=es.length/\k'=dL es k i.toNat/\cur=dW es k i.toNat:=hi;obtain⟨g0,g1,hk',hc⟩:=hi;cbv
  repeat' first|apply And.intro|(apply be<;>intro hb<;>cbv)|(refine ab (O.ar .add .i64 i 1,O.ar .add .i64 (O.ar .add .i64 (k') 1) 1,O.up (.s 2 (O.up (.s 2 (cur)) [(O.ad 0 i,0)] [.i (k')])) [(O.ad 0 i,1)] [.i (O.ar .add .i64 (k') 1)]) ?_ ?_ ?_;focus (cbv;done))
  all_goals((try subst hos);subst hO hr hF;(try simp only[nc]at*);(try simp only[aj,SS,sa,az]at*);(try have hlt:i<es.length:=by assumption);(try have he:es.getD i.toNat []=[.i (ag es i 0),.i (ag es i 1)]:=(av hwf g0 hlt).symm);(try have hcg:cur.getD i.toNat []=[.i (ag es i 0),.i (ag es i 1)]:=by rw[hc,de g1];exact he))
  all_goals exact LM
theorem np {ms:aa}{k:Int}(hp:∃ es,ms=am es k/\Rw [tI,tI] es/\ah es<=1099511627776/\0<=k/\ao [ms] k<=1152921504606846976):au 72 [.one (.s 2 ms),.j k] [.j (ao [ms] k)]:=by
 obtain⟨es,hms,hw,hlim,hk0,hkb⟩:=hp;have hlen:=cV hlim;have hml:ms.length=es.length:=by rw[hms];exact bZ
 have hkk:ao [ms] k=ao [es] k:=by rw[hms];exact j9
 have hwm:Wf [.i 0,.i 0] ms:=by rw[hms];exact cN hw
 have hwf:Wf [.i 0,.i 0] es:=hw.wf;have hat:∀ n,n<es.length->ms.getD n []=(eA (es.getD n []) (dL es k n)).1:=fun n hn=>by rw[hms];exact gd hn
 refine cb nB Tryz.func72 ?_
 intro O r F hO hr hF;cbv
 refine⟨[0,1,5],[],Int×Int,fun s=>match s with|(i,k')=>[.reg 5 (.j i),.reg 1 (.j k')],fun s=>0<=s.1/\s.1.toNat<=es.length/\s.2=dL es k s.1.toNat,fun s=>es.length-s.1.toNat,⟨(0,k),?_,?_⟩,?_⟩
 ·exact⟨by omega,Nat.zero_le _,bJ.symm⟩
 ·cbv
 ·rintro⟨i,k'⟩ hi;replace hi:0<=i/\i.toNat<=es.length/\k'=dL es k i.toNat:=hi;obtain⟨g0,g1,hk'⟩:=hi;cbv
  repeat' first|apply And.intro|(apply be<;>intro hb<;>cbv)|(refine ab (O.ar .add .i64 i 1,O.ar .add .i64 (O.ar .add .i64 (k') 1) 1) ?_ ?_ ?_;focus (cbv;done))
  all_goals(subst hO hr hF;(try simp only[nc]at*);(try simp only[aj,SS,sa,az]at*);(try have hltm:i<ms.length:=by assumption);(try have hlt:i<es.length:=by omega);(try have he:es.getD i.toNat []=[.i (ag es i 0),.i (ag es i 1)]:=(av hwf g0 hlt).symm);(try rw[dj (n:=es.length) g0 hlt (by omega)]);(try have hlt':i.toNat<es.length:=by omega);(try have hct:=cB (es:=es) (n:=i.toNat) (by omega);rw[he]at hct;simp only[cI,eC,Nat.add_zero,Nat.zero_add]at hct);(try have hks:=cP (es:=es) (k:=k) hlt';rw[he]at hks;simp only[eA,eQ]at hks);(try have hem:([.i (ag ms i 0),.i (ag ms i 1)]:aP)=_:=(av hwm g0 hltm).trans (hat i.toNat hlt');rw[he]at hem;simp only[eA,eQ,List.cons.injEq,L.v.injEq,Value.int.injEq,Value.bool.injEq,L.s.injEq,true_and,and_true]at hem))
  all_goals exact LN
theorem wO {a0 a1 a2:Int}(hp:True):au 138 [.agg [.i a0,.i a1,.i a2]] [.agg [.i a0,.i a1,.i a2]]:=by
 refine cb nB Tryz.func138 ?_
 exact sK
theorem wE {a0 a1 a2:Int}{d:DV}(hp:d=.agg [.i a0,.i a1,.i a2]):au 167 [.agg [.i a0,.i a1,.i a2],d] [.k true]:=by
 subst hp;refine cb nB Tryz.func167 ?_
 exact sK
namespace LSpanS
def ct (F:aQ):CT:=fun f ds=>match f,ds with
 |138,[.agg [.v (.int .i64 a0),.v (.int .i64 a1),.v (.int .i64 a2)]]=>some (fun _=>True,[.agg [.i a0,.i a1,.i a2]])
 |167,[.agg [.v (.int .i64 a0),.v (.int .i64 a1),.v (.int .i64 a2)],d]=>some (fun _=>d=.agg [.i a0,.i a1,.i a2],[.k true])
 |_,_=>none
theorem ai :aS (ct F0):=by
 intro f ds pre res h hp;unfold ct at h;split at h<;>cases h
 exact wO hp;exact wE hp
abbrev B :cy:=tb ai
end LSpanS
theorem t6 {es:aa}{left:Int}(hp:Rw [tI,tI,tI] es/\0<=left/\left<=1048576):au 31 [.one (.s 3 es),.j left] [.j (bK [es] left)]:=by
 obtain⟨hw,h0,h1⟩:=hp;have hc:ah es=es.length:=hw.cnt rfl;have hm:=hw.1;unfold maxLen at hm;have hs:bF .sub .i64 left es.length=left-es.length:=cR (by omega);have hn:bK [es] left=if left<es.length then-1 else left-es.length:=by unfold bK;rw[dd,hc]
 refine cb LSpanS.B Tryz.func31 ?_
 exact J2
theorem ug {es:aa}(hp:Rw [tI,tI,tI] es/\ah es<=1048576):au 43 [.one (.s 3 es)] [.one (.s 3 es)]:=by
 obtain⟨hw,hlim⟩:=hp;have hwf:Wf [.i 0,.i 0,.i 0] es:=hw.wf;have hlen:=cV hlim;refine cb LSpanS.B Tryz.func43 ?_
 intro O r F hO hr hF;cbv
 have h0z:cd es [.i 0,.i 0,.i 0] 0=O.rep (O.zi (O.ln es)) [.i 0,.i 0,.i 0]:=by
  subst hO;rw[cO];rfl
 refine⟨?_,?_,[0,3,4],[3],Int×aa,fun s=>[.reg 4 (.j s.1),.leaf 3 0 ⟨0,0,none,.own (.s 3 s.2)⟩],fun s=>0<=s.1/\s.1.toNat<=es.length/\s.2=cd es [.i 0,.i 0,.i 0] s.1.toNat,fun s=>es.length-s.1.toNat,⟨(0,O.rep (O.zi (O.ln es)) [.i 0,.i 0,.i 0]),?_,?_⟩,?_⟩
 ·subst hO;exact ke (b:=24) (show es.length*_<=_ by omega) (show es.length<=_ by omega)
 ·subst hO;exact⟨rfl,rfl⟩
 ·exact⟨by omega,Nat.zero_le _,h0z.symm⟩
 ·cbv
 ·rintro⟨i,m⟩ hi;replace hi:0<=i/\i.toNat<=es.length/\m=cd es [.i 0,.i 0,.i 0] i.toNat:=hi;obtain⟨g0,g1,hm⟩:=hi;cbv
  repeat' first|apply And.intro|(apply be<;>intro hb<;>cbv)|(refine ab (O.ar .add .i64 i 1,O.up (.s 3 m) [(O.ad 0 i,0)] [.i (O.gi es i 0),.i (O.gi es i 1),.i (O.gi es i 2)]) ?_ ?_ ?_;focus (cbv;done))
  all_goals(subst hO hr hF;(try simp only[nc]at*);(try simp only[aj,SS,sa,az]at*);(try simp only[jK,List.length_replicate,Int.toNat_natCast]at*);(try have hlt:i<es.length:=by assumption);(try have he:es.getD i.toNat []=[.i (ag es i 0),.i (ag es i 1),.i (ag es i 2)]:=(av hwf g0 hlt).symm))
  all_goals exact JZ
theorem tR {es:aa}{d:DV}(hp:d=.one (.s 3 es)/\Rw [tI,tI,tI] es/\ah es<=1099511627776):au 55 [.one (.s 3 es),d] [.k true]:=by
 obtain⟨rfl,hw,hlim⟩:=hp;have hwf:Wf [.i 0,.i 0,.i 0] es:=hw.wf;have hlen:=cV hlim;refine cb LSpanS.B Tryz.func55 ?_
 intro O r F hO hr hF;cbv
 apply be<;>intro hb<;>cbv
 ·(subst hO hr hF;(try simp only[nc]at*);(try simp only[aj,SS,sa,az]at*));exact absurd rfl hb
 ·clear hb;refine⟨[0,1,5],[],Int,fun i=>[.reg 5 (.j i)],fun i=>0<=i/\i.toNat<=es.length,fun i=>es.length-i.toNat,⟨0,?_,?_⟩,?_⟩
  ·exact⟨by omega,Nat.zero_le _⟩
  ·cbv
  ·rintro i hi;replace hi:0<=i/\i.toNat<=es.length:=hi;obtain⟨g0,g1⟩:=hi;cbv
   repeat' first|apply And.intro|(apply be<;>intro hb<;>cbv)|(refine ab (O.ar .add .i64 i 1) ?_ ?_ ?_;focus (cbv;done))
   all_goals(subst hO hr hF;(try simp only[nc]at*);(try simp only[aj,SS,sa,az]at*);(try have hlt:i<es.length:=by assumption);(try have he:es.getD i.toNat []=[.i (ag es i 0),.i (ag es i 1),.i (ag es i 2)]:=(av hwf g0 hlt).symm))
   all_goals exact LO
theorem pj {es:aa}{k:Int}(hp:Rw [tI,tI,tI] es/\ah es<=1099511627776/\0<=k/\ao [es] k<=1152921504606846976):eg 64 [.one (.s 3 es),.j k] [.s 3 (am es k)] [.j (ao [es] k)]:=by
 obtain⟨hw,hlim,hk0,hkb⟩:=hp;have hwf:Wf [.i 0,.i 0,.i 0] es:=hw.wf;have hlen:=cV hlim;refine mb nB [(0,0)] Tryz.func64 ?_
 intro O r os F hO hr hos hF;cbv
 refine⟨[0,1,5],[0],Int×Int×aa,fun s=>match s with|(i,k',cur)=>[.reg 5 (.j i),.reg 1 (.j k'),.leaf 0 0 ⟨0,0,some 0,.own (.s 3 cur)⟩],fun s=>0<=s.1/\s.1.toNat<=es.length/\s.2.1=dL es k s.1.toNat/\s.2.2=dW es k s.1.toNat,fun s=>es.length-s.1.toNat,⟨(0,k,es),?_,?_⟩,?_⟩
 ·exact⟨by omega,Nat.zero_le _,bJ.symm,dh.symm⟩
 ·cbv
 ·rintro⟨i,k',cur⟩ hi;replace hi:0<=i/\i.toNat<=es.length/\k'=dL es k i.toNat/\cur=dW es k i.toNat:=hi;obtain⟨g0,g1,hk',hc⟩:=hi;cbv
  repeat' first|apply And.intro|(apply be<;>intro hb<;>cbv)|(refine ab (O.ar .add .i64 i 1,O.ar .add .i64 (O.ar .add .i64 (O.ar .add .i64 (k') 1) 1) 1,O.up (.s 3 (O.up (.s 3 (O.up (.s 3 (cur)) [(O.ad 0 i,0)] [.i (k')])) [(O.ad 0 i,1)] [.i (O.ar .add .i64 (k') 1)])) [(O.ad 0 i,2)] [.i (O.ar .add .i64 (O.ar .add .i64 (k') 1) 1)]) ?_ ?_ ?_;focus (cbv;done))
  all_goals((try subst hos);subst hO hr hF;(try simp only[nc]at*);(try simp only[aj,SS,sa,az]at*);(try have hlt:i<es.length:=by assumption);(try have he:es.getD i.toNat []=[.i (ag es i 0),.i (ag es i 1),.i (ag es i 2)]:=(av hwf g0 hlt).symm);(try have hcg:cur.getD i.toNat []=[.i (ag es i 0),.i (ag es i 1),.i (ag es i 2)]:=by rw[hc,de g1];exact he))
  all_goals exact LM
theorem o9 {ms:aa}{k:Int}(hp:∃ es,ms=am es k/\Rw [tI,tI,tI] es/\ah es<=1099511627776/\0<=k/\ao [ms] k<=1152921504606846976):au 73 [.one (.s 3 ms),.j k] [.j (ao [ms] k)]:=by
 obtain⟨es,hms,hw,hlim,hk0,hkb⟩:=hp;have hlen:=cV hlim;have hml:ms.length=es.length:=by rw[hms];exact bZ
 have hkk:ao [ms] k=ao [es] k:=by rw[hms];exact j9
 have hwm:Wf [.i 0,.i 0,.i 0] ms:=by rw[hms];exact cN hw
 have hwf:Wf [.i 0,.i 0,.i 0] es:=hw.wf;have hat:∀ n,n<es.length->ms.getD n []=(eA (es.getD n []) (dL es k n)).1:=fun n hn=>by rw[hms];exact gd hn
 refine cb nB Tryz.func73 ?_
 intro O r F hO hr hF;cbv
 refine⟨[0,1,5],[],Int×Int,fun s=>match s with|(i,k')=>[.reg 5 (.j i),.reg 1 (.j k')],fun s=>0<=s.1/\s.1.toNat<=es.length/\s.2=dL es k s.1.toNat,fun s=>es.length-s.1.toNat,⟨(0,k),?_,?_⟩,?_⟩
 ·exact⟨by omega,Nat.zero_le _,bJ.symm⟩
 ·cbv
 ·rintro⟨i,k'⟩ hi;replace hi:0<=i/\i.toNat<=es.length/\k'=dL es k i.toNat:=hi;obtain⟨g0,g1,hk'⟩:=hi;cbv
  repeat' first|apply And.intro|(apply be<;>intro hb<;>cbv)|(refine ab (O.ar .add .i64 i 1,O.ar .add .i64 (O.ar .add .i64 (O.ar .add .i64 (k') 1) 1) 1) ?_ ?_ ?_;focus (cbv;done))
  all_goals(subst hO hr hF;(try simp only[nc]at*);(try simp only[aj,SS,sa,az]at*);(try have hltm:i<ms.length:=by assumption);(try have hlt:i<es.length:=by omega);(try have he:es.getD i.toNat []=[.i (ag es i 0),.i (ag es i 1),.i (ag es i 2)]:=(av hwf g0 hlt).symm);(try rw[dj (n:=es.length) g0 hlt (by omega)]);(try have hlt':i.toNat<es.length:=by omega);(try have hct:=cB (es:=es) (n:=i.toNat) (by omega);rw[he]at hct;simp only[cI,eC,Nat.add_zero,Nat.zero_add]at hct);(try have hks:=cP (es:=es) (k:=k) hlt';rw[he]at hks;simp only[eA,eQ]at hks);(try have hem:([.i (ag ms i 0),.i (ag ms i 1),.i (ag ms i 2)]:aP)=_:=(av hwm g0 hltm).trans (hat i.toNat hlt');rw[he]at hem;simp only[eA,eQ,List.cons.injEq,L.v.injEq,Value.int.injEq,Value.bool.injEq,L.s.injEq,true_and,and_true]at hem))
  all_goals exact LN
theorem uc {a0 a1 a2:Int}(hp:True):au 139 [.agg [.i a0,.i a1,.i a2]] [.agg [.i a0,.i a1,.i a2]]:=by
 refine cb nB Tryz.func139 ?_
 exact sK
theorem tO {a0 a1 a2:Int}{d:DV}(hp:d=.agg [.i a0,.i a1,.i a2]):au 168 [.agg [.i a0,.i a1,.i a2],d] [.k true]:=by
 subst hp;refine cb nB Tryz.func168 ?_
 exact sK
namespace LLargeS
def ct (F:aQ):CT:=fun f ds=>match f,ds with
 |139,[.agg [.v (.int .i64 a0),.v (.int .i64 a1),.v (.int .i64 a2)]]=>some (fun _=>True,[.agg [.i a0,.i a1,.i a2]])
 |168,[.agg [.v (.int .i64 a0),.v (.int .i64 a1),.v (.int .i64 a2)],d]=>some (fun _=>d=.agg [.i a0,.i a1,.i a2],[.k true])
 |_,_=>none
theorem ai :aS (ct F0):=by
 intro f ds pre res h hp;unfold ct at h;split at h<;>cases h
 exact uc hp;exact tO hp
abbrev B :cy:=tb ai
end LLargeS
theorem rR {es:aa}{left:Int}(hp:Rw [tI,tI,tI] es/\0<=left/\left<=1048576):au 32 [.one (.s 3 es),.j left] [.j (bK [es] left)]:=by
 obtain⟨hw,h0,h1⟩:=hp;have hc:ah es=es.length:=hw.cnt rfl;have hm:=hw.1;unfold maxLen at hm;have hs:bF .sub .i64 left es.length=left-es.length:=cR (by omega);have hn:bK [es] left=if left<es.length then-1 else left-es.length:=by unfold bK;rw[dd,hc]
 refine cb LLargeS.B Tryz.func32 ?_
 exact J2
theorem rZ {es:aa}(hp:Rw [tI,tI,tI] es/\ah es<=1048576):au 44 [.one (.s 3 es)] [.one (.s 3 es)]:=by
 obtain⟨hw,hlim⟩:=hp;have hwf:Wf [.i 0,.i 0,.i 0] es:=hw.wf;have hlen:=cV hlim;refine cb LLargeS.B Tryz.func44 ?_
 intro O r F hO hr hF;cbv
 have h0z:cd es [.i 0,.i 0,.i 0] 0=O.rep (O.zi (O.ln es)) [.i 0,.i 0,.i 0]:=by
  subst hO;rw[cO];rfl
 refine⟨?_,?_,[0,3,4],[3],Int×aa,fun s=>[.reg 4 (.j s.1),.leaf 3 0 ⟨0,0,none,.own (.s 3 s.2)⟩],fun s=>0<=s.1/\s.1.toNat<=es.length/\s.2=cd es [.i 0,.i 0,.i 0] s.1.toNat,fun s=>es.length-s.1.toNat,⟨(0,O.rep (O.zi (O.ln es)) [.i 0,.i 0,.i 0]),?_,?_⟩,?_⟩
 ·subst hO;exact ke (b:=24) (show es.length*_<=_ by omega) (show es.length<=_ by omega)
 ·subst hO;exact⟨rfl,rfl⟩
 ·exact⟨by omega,Nat.zero_le _,h0z.symm⟩
 ·cbv
 ·rintro⟨i,m⟩ hi;replace hi:0<=i/\i.toNat<=es.length/\m=cd es [.i 0,.i 0,.i 0] i.toNat:=hi;obtain⟨g0,g1,hm⟩:=hi;cbv
  repeat' first|apply And.intro|(apply be<;>intro hb<;>cbv)|(refine ab (O.ar .add .i64 i 1,O.up (.s 3 m) [(O.ad 0 i,0)] [.i (O.gi es i 0),.i (O.gi es i 1),.i (O.gi es i 2)]) ?_ ?_ ?_;focus (cbv;done))
  all_goals(subst hO hr hF;(try simp only[nc]at*);(try simp only[aj,SS,sa,az]at*);(try simp only[jK,List.length_replicate,Int.toNat_natCast]at*);(try have hlt:i<es.length:=by assumption);(try have he:es.getD i.toNat []=[.i (ag es i 0),.i (ag es i 1),.i (ag es i 2)]:=(av hwf g0 hlt).symm))
  all_goals exact JZ
theorem rB {es:aa}{d:DV}(hp:d=.one (.s 3 es)/\Rw [tI,tI,tI] es/\ah es<=1099511627776):au 56 [.one (.s 3 es),d] [.k true]:=by
 obtain⟨rfl,hw,hlim⟩:=hp;have hwf:Wf [.i 0,.i 0,.i 0] es:=hw.wf;have hlen:=cV hlim;refine cb LLargeS.B Tryz.func56 ?_
 intro O r F hO hr hF;cbv
 apply be<;>intro hb<;>cbv
 ·(subst hO hr hF;(try simp only[nc]at*);(try simp only[aj,SS,sa,az]at*));exact absurd rfl hb
 ·clear hb;refine⟨[0,1,5],[],Int,fun i=>[.reg 5 (.j i)],fun i=>0<=i/\i.toNat<=es.length,fun i=>es.length-i.toNat,⟨0,?_,?_⟩,?_⟩
  ·exact⟨by omega,Nat.zero_le _⟩
  ·cbv
  ·rintro i hi;replace hi:0<=i/\i.toNat<=es.length:=hi;obtain⟨g0,g1⟩:=hi;cbv
   repeat' first|apply And.intro|(apply be<;>intro hb<;>cbv)|(refine ab (O.ar .add .i64 i 1) ?_ ?_ ?_;focus (cbv;done))
   all_goals(subst hO hr hF;(try simp only[nc]at*);(try simp only[aj,SS,sa,az]at*);(try have hlt:i<es.length:=by assumption);(try have he:es.getD i.toNat []=[.i (ag es i 0),.i (ag es i 1),.i (ag es i 2)]:=(av hwf g0 hlt).symm))
   all_goals exact LO
theorem nD {es:aa}{k:Int}(hp:Rw [tI,tI,tI] es/\ah es<=1099511627776/\0<=k/\ao [es] k<=1152921504606846976):eg 65 [.one (.s 3 es),.j k] [.s 3 (am es k)] [.j (ao [es] k)]:=by
 obtain⟨hw,hlim,hk0,hkb⟩:=hp;have hwf:Wf [.i 0,.i 0,.i 0] es:=hw.wf;have hlen:=cV hlim;refine mb nB [(0,0)] Tryz.func65 ?_
 intro O r os F hO hr hos hF;cbv
 refine⟨[0,1,5],[0],Int×Int×aa,fun s=>match s with|(i,k',cur)=>[.reg 5 (.j i),.reg 1 (.j k'),.leaf 0 0 ⟨0,0,some 0,.own (.s 3 cur)⟩],fun s=>0<=s.1/\s.1.toNat<=es.length/\s.2.1=dL es k s.1.toNat/\s.2.2=dW es k s.1.toNat,fun s=>es.length-s.1.toNat,⟨(0,k,es),?_,?_⟩,?_⟩
 ·exact⟨by omega,Nat.zero_le _,bJ.symm,dh.symm⟩
 ·cbv
 ·rintro⟨i,k',cur⟩ hi;replace hi:0<=i/\i.toNat<=es.length/\k'=dL es k i.toNat/\cur=dW es k i.toNat:=hi;obtain⟨g0,g1,hk',hc⟩:=hi;cbv
  repeat' first|apply And.intro|(apply be<;>intro hb<;>cbv)|(refine ab (O.ar .add .i64 i 1,O.ar .add .i64 (O.ar .add .i64 (O.ar .add .i64 (k') 1) 1) 1,O.up (.s 3 (O.up (.s 3 (O.up (.s 3 (cur)) [(O.ad 0 i,0)] [.i (k')])) [(O.ad 0 i,1)] [.i (O.ar .add .i64 (k') 1)])) [(O.ad 0 i,2)] [.i (O.ar .add .i64 (O.ar .add .i64 (k') 1) 1)]) ?_ ?_ ?_;focus (cbv;done))
  all_goals((try subst hos);subst hO hr hF;(try simp only[nc]at*);(try simp only[aj,SS,sa,az]at*);(try have hlt:i<es.length:=by assumption);(try have he:es.getD i.toNat []=[.i (ag es i 0),.i (ag es i 1),.i (ag es i 2)]:=(av hwf g0 hlt).symm);(try have hcg:cur.getD i.toNat []=[.i (ag es i 0),.i (ag es i 1),.i (ag es i 2)]:=by rw[hc,de g1];exact he))
  all_goals exact LM
theorem nj {ms:aa}{k:Int}(hp:∃ es,ms=am es k/\Rw [tI,tI,tI] es/\ah es<=1099511627776/\0<=k/\ao [ms] k<=1152921504606846976):au 74 [.one (.s 3 ms),.j k] [.j (ao [ms] k)]:=by
 obtain⟨es,hms,hw,hlim,hk0,hkb⟩:=hp;have hlen:=cV hlim;have hml:ms.length=es.length:=by rw[hms];exact bZ
 have hkk:ao [ms] k=ao [es] k:=by rw[hms];exact j9
 have hwm:Wf [.i 0,.i 0,.i 0] ms:=by rw[hms];exact cN hw
 have hwf:Wf [.i 0,.i 0,.i 0] es:=hw.wf;have hat:∀ n,n<es.length->ms.getD n []=(eA (es.getD n []) (dL es k n)).1:=fun n hn=>by rw[hms];exact gd hn
 refine cb nB Tryz.func74 ?_
 intro O r F hO hr hF;cbv
 refine⟨[0,1,5],[],Int×Int,fun s=>match s with|(i,k')=>[.reg 5 (.j i),.reg 1 (.j k')],fun s=>0<=s.1/\s.1.toNat<=es.length/\s.2=dL es k s.1.toNat,fun s=>es.length-s.1.toNat,⟨(0,k),?_,?_⟩,?_⟩
 ·exact⟨by omega,Nat.zero_le _,bJ.symm⟩
 ·cbv
 ·rintro⟨i,k'⟩ hi;replace hi:0<=i/\i.toNat<=es.length/\k'=dL es k i.toNat:=hi;obtain⟨g0,g1,hk'⟩:=hi;cbv
  repeat' first|apply And.intro|(apply be<;>intro hb<;>cbv)|(refine ab (O.ar .add .i64 i 1,O.ar .add .i64 (O.ar .add .i64 (O.ar .add .i64 (k') 1) 1) 1) ?_ ?_ ?_;focus (cbv;done))
  all_goals(subst hO hr hF;(try simp only[nc]at*);(try simp only[aj,SS,sa,az]at*);(try have hltm:i<ms.length:=by assumption);(try have hlt:i<es.length:=by omega);(try have he:es.getD i.toNat []=[.i (ag es i 0),.i (ag es i 1),.i (ag es i 2)]:=(av hwf g0 hlt).symm);(try rw[dj (n:=es.length) g0 hlt (by omega)]);(try have hlt':i.toNat<es.length:=by omega);(try have hct:=cB (es:=es) (n:=i.toNat) (by omega);rw[he]at hct;simp only[cI,eC,Nat.add_zero,Nat.zero_add]at hct);(try have hks:=cP (es:=es) (k:=k) hlt';rw[he]at hks;simp only[eA,eQ]at hks);(try have hem:([.i (ag ms i 0),.i (ag ms i 1),.i (ag ms i 2)]:aP)=_:=(av hwm g0 hltm).trans (hat i.toNat hlt');rw[he]at hem;simp only[eA,eQ,List.cons.injEq,L.v.injEq,Value.int.injEq,Value.bool.injEq,L.s.injEq,true_and,and_true]at hem))
  all_goals exact LN
end Go.V